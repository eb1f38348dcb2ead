/- Texts joined for a claim: VkMaps, VkFlowCirc2, VkFlowCirc3. -/
import Derived.Test.YtddapgjjndbejaaKbParts
import Derived.MapKept
import Derived.Test.YtddapgjjndbejaaKaParts
/- The proof engine, part 24: maps. Generic over the program. -/
namespace Go.Vk
open Go

/-- What a map says of each key. -/
structure MapOk {κ α : Type} (key : κ → Value) (val : α → Value) (f : κ → Option α) (es : Array MapEntry) (clock : Nat) : Prop where
  st : MapKept.Stamped es clock
  of : ∀ x ∈ es.toList, ∃ k a, x.key = key k ∧ x.val = val a ∧ f k = some a
  all : ∀ k a, f k = some a → ∃ x ∈ es.toList, x.key = key k ∧ x.val = val a
/-- A map of one's own. -/
def mapr {κ α : Type} (key : κ → Value) (val : α → Value) (b : Nat) (f : κ → Option α) : Rsc :=
  ⟨(· = b), fun w => ∃ es clock, w.heap[b]? = some (.map es clock) ∧ MapOk key val f es clock, fun h ⟨es, clock, h1, h2⟩ => ⟨es, clock, (h b rfl).trans h1, h2⟩⟩
/-- How keys are written. -/
structure KeyOk {κ : Type} (P : Program) (kt : TypeId) (d : TypeDesc) (key : κ → Value) : Prop where
  u : P.underlying kt = some d
  is : ∀ k, MapKept.IsKey d (key k)
  inj : ∀ k k', key k = key k' → k = k'
abbrev kInt (k : Int) : Value := .int .i64 k
theorem keyInt {P : Program} {kt : TypeId} (hu : P.underlying kt = some (.int .i64)) : KeyOk P kt (.int .i64) kInt := ⟨hu, fun _ => rfl, fun k k' h => by cases h; rfl⟩

set_option linter.unusedSectionVars false
set_option linter.unusedVariables false
section
variable {κ α : Type} [DecidableEq κ] {key : κ → Value} {val : α → Value} {f : κ → Option α} {es : Array MapEntry} {clock : Nat} {k : κ} {a : α}
def mnil : κ → Option α := fun _ => none
def mset (f : κ → Option α) (k : κ) (a : α) : κ → Option α := fun k' => if k' = k then some a else f k'
def mdel (f : κ → Option α) (k : κ) : κ → Option α := fun k' => if k' = k then none else f k'
omit [DecidableEq κ] in
theorem MapOk.nil : MapOk key val (mnil : κ → Option α) #[] 0 := ⟨MapKept.stamped_empty 0, by simp, fun _ _ h => by cases h⟩
/-- What is found of a key. -/
theorem MapOk.find {P : Program} {kt : TypeId} {d : TypeDesc} (h : MapOk key val f es clock) (hK : KeyOk P kt d key) (k : κ) :
    (f k = none ∧ Instr.findNow d (key k) es.toList 0 = some none ∧ ∀ x ∈ es.toList, x.key ≠ key k) ∨
    ∃ a j e, f k = some a ∧ Instr.findNow d (key k) es.toList 0 = some (some (j, val a)) ∧ es[j]? = some e ∧ e.key = key k ∧ e.val = val a := by
  have hks : ∀ x ∈ es.toList, MapKept.IsKey d x.key := fun x hx => by
    obtain ⟨k', _, h1, _⟩ := h.of x hx; rw [h1]; exact hK.is k'
  rcases MapKept.findNow_spec (hK.is k) es.toList 0 hks with ⟨h1, h2⟩ | ⟨j, e, h1, h2, h3⟩
  · refine .inl ⟨?_, h1, h2⟩
    cases hf : f k with
    | none => rfl
    | some a =>
      obtain ⟨x, hx, e1, _⟩ := h.all k a hf
      exact absurd e1 (h2 x hx)
  · obtain ⟨k', a, e1, e2, e3⟩ := h.of e (List.mem_of_getElem? h2)
    have : k' = k := hK.inj _ _ (e1.symm.trans h3)
    subst this
    exact .inr ⟨a, j, e, e3, by rw [h1, Nat.zero_add, e2], by rw [← Array.getElem?_toList]; exact h2, h3, e2⟩
theorem MapOk.push {P : Program} {kt : TypeId} {d : TypeDesc} (h : MapOk key val f es clock) (hK : KeyOk P kt d key) (h2 : ∀ x ∈ es.toList, x.key ≠ key k) (a : α) : MapOk key val (mset f k a) (es.push { key := key k, val := val a, born := clock }) (clock + 1) := by
  refine ⟨MapKept.stamped_push h.st h2, fun x hx => ?_, fun k' a' hf => ?_⟩
  · simp only [Array.toList_push, List.mem_append, List.mem_singleton] at hx
    rcases hx with hx | rfl
    · obtain ⟨k', a', e1, e2, e3⟩ := h.of x hx
      refine ⟨k', a', e1, e2, ?_⟩
      rw [mset, if_neg (fun e => h2 x hx (by rw [e1, e]))]; exact e3
    · exact ⟨k, a, rfl, rfl, by rw [mset, if_pos rfl]⟩
  · simp only [Array.toList_push, List.mem_append, List.mem_singleton]
    unfold mset at hf
    split at hf
    · next e => cases hf; subst e; exact ⟨_, .inr rfl, rfl, rfl⟩
    · obtain ⟨x, hx, e1, e2⟩ := h.all k' a' hf
      exact ⟨x, .inl hx, e1, e2⟩
theorem MapOk.modify {P : Program} {kt : TypeId} {d : TypeDesc} (h : MapOk key val f es clock) (hK : KeyOk P kt d key) {j : Nat} {e : MapEntry} (he : es[j]? = some e) (hk : e.key = key k) (a : α) : MapOk key val (mset f k a) (es.modify j fun e => { e with key := key k, val := val a }) clock := by
  have hget : ∀ i, (es.modify j fun e => { e with key := key k, val := val a })[i]? = if j = i then es[i]?.map (fun e => { e with key := key k, val := val a }) else es[i]? := fun i => by rw [Array.getElem?_modify]
  refine ⟨MapKept.stamped_modify h.st j _ (fun _ _ => rfl) (fun e' _ h' => by rw [he] at h'; cases h'; exact hk.symm), fun x hx => ?_, fun k' a' hf => ?_⟩
  · obtain ⟨i, hi⟩ := List.mem_iff_getElem?.1 hx
    rw [Array.getElem?_toList, hget] at hi
    split at hi
    · next e1 =>
      subst e1
      rw [he] at hi
      cases hi
      exact ⟨k, a, rfl, rfl, by rw [mset, if_pos rfl]⟩
    · next e1 =>
      obtain ⟨k', a', q1, q2, q3⟩ := h.of x (List.mem_of_getElem? (by rw [Array.getElem?_toList]; exact hi))
      refine ⟨k', a', q1, q2, ?_⟩
      rw [mset, if_neg (fun e2 => e1 ?_)]; exact q3
      -- keys are distinct
      have hn := List.pairwise_iff_getElem.1 (MapKept.stamped_iff es clock |>.1 h.st).2.2
      obtain ⟨l1, g1⟩ := Array.getElem?_eq_some_iff.1 he
      obtain ⟨l2, g2⟩ := Array.getElem?_eq_some_iff.1 hi
      rcases Nat.lt_trichotomy j i with hlt | hlt | hlt
      · exact absurd (show es.toList[j].key = es.toList[i].key by rw [Array.getElem_toList, Array.getElem_toList, g1, g2, hk, q1, e2]) (hn j i (by simpa using l1) (by simpa using l2) hlt)
      · exact hlt
      · exact absurd (show es.toList[i].key = es.toList[j].key by rw [Array.getElem_toList, Array.getElem_toList, g1, g2, hk, q1, e2]) (hn i j (by simpa using l2) (by simpa using l1) hlt)
  · unfold mset at hf
    split at hf
    · next e1 =>
      cases hf; subst e1
      exact ⟨_, List.mem_iff_getElem?.2 ⟨j, by rw [Array.getElem?_toList, hget, if_pos rfl, he]; rfl⟩, rfl, rfl⟩
    · next e1 =>
      obtain ⟨x, hx, q1, q2⟩ := h.all k' a' hf
      obtain ⟨i, hi⟩ := List.mem_iff_getElem?.1 hx
      refine ⟨x, List.mem_iff_getElem?.2 ⟨i, ?_⟩, q1, q2⟩
      rw [Array.getElem?_toList] at hi ⊢
      rw [hget, if_neg (fun e2 => e1 ?_)]; exact hi
      subst e2
      rw [he] at hi; cases hi
      exact hK.inj _ _ (q1.symm.trans hk)
theorem MapOk.erase {P : Program} {kt : TypeId} {d : TypeDesc} (h : MapOk key val f es clock) (hK : KeyOk P kt d key) {j : Nat} {e : MapEntry} (he : es[j]? = some e) (hk : e.key = key k) : MapOk key val (mdel f k) (es.eraseIdxIfInBounds j) clock := by
  have hj : j < es.size := (Array.getElem?_eq_some_iff.1 he).1
  have hl : (es.eraseIdxIfInBounds j).toList = es.toList.eraseIdx j := by
    unfold Array.eraseIdxIfInBounds; rw [dif_pos hj]; simp
  have hn := List.pairwise_iff_getElem.1 (MapKept.stamped_iff es clock |>.1 h.st).2.2
  refine ⟨MapKept.stamped_erase h.st j, fun x hx => ?_, fun k' a' hf => ?_⟩
  · rw [hl] at hx
    obtain ⟨k', a', q1, q2, q3⟩ := h.of x (List.mem_of_mem_eraseIdx hx)
    refine ⟨k', a', q1, q2, ?_⟩
    rw [mdel, if_neg (fun e2 => ?_)]; exact q3
    obtain ⟨i, hne, hi⟩ := List.mem_eraseIdx_iff_getElem?.1 hx
    rw [Array.getElem?_toList] at hi
    obtain ⟨l1, g1⟩ := Array.getElem?_eq_some_iff.1 he
    obtain ⟨l2, g2⟩ := Array.getElem?_eq_some_iff.1 hi
    rcases Nat.lt_trichotomy j i with hlt | hlt | hlt
    · exact absurd (show es.toList[j].key = es.toList[i].key by rw [Array.getElem_toList, Array.getElem_toList, g1, g2, hk, q1, e2]) (hn j i (by simpa using l1) (by simpa using l2) hlt)
    · exact hne hlt.symm
    · exact absurd (show es.toList[i].key = es.toList[j].key by rw [Array.getElem_toList, Array.getElem_toList, g1, g2, hk, q1, e2]) (hn i j (by simpa using l2) (by simpa using l1) hlt)
  · unfold mdel at hf
    split at hf
    · cases hf
    · next e1 =>
      obtain ⟨x, hx, q1, q2⟩ := h.all k' a' hf
      refine ⟨x, ?_, q1, q2⟩
      rw [hl]
      obtain ⟨i, hi⟩ := List.mem_iff_getElem?.1 hx
      refine List.mem_eraseIdx_iff_getElem?.2 ⟨i, fun e2 => e1 ?_, hi⟩
      subst e2
      rw [Array.getElem?_toList, he] at hi; cases hi
      exact hK.inj _ _ (q1.symm.trans hk)
omit [DecidableEq κ] in
theorem MapOk.same (h : MapOk key val f es clock) {g : κ → Option α} (e : ∀ k, f k = g k) : MapOk key val g es clock :=
  ⟨h.st, fun x hx => let ⟨k, a, h1, h2, h3⟩ := h.of x hx; ⟨k, a, h1, h2, by rw [← e]; exact h3⟩, fun k a hf => h.all k a (by rw [e]; exact hf)⟩

variable {P : Program} {X : Nat → Prop} {w0 w w' : World} {L : List Rsc} {b : Nat}
theorem MapOk.lt (h : (mapr key val b f).ok w) : b < w.heap.size := let ⟨_, _, h1, _⟩ := h; (Array.getElem?_eq_some_iff.1 h1).1
theorem Keep.setObj (w : World) (o : Obj) : Keep (· = b) w { w with heap := w.heap.setIfInBounds b o } :=
  ⟨rfl, rfl, rfl, by simp, fun i _ h => by simp [Ne.symm h]⟩
theorem Own.setMap (S : Own X w0 w L) (j : Nat) (hj : L[j]? = some (mapr key val b f)) {es : Array MapEntry} {clock : Nat} {g : κ → Option α} (h : MapOk key val g es clock) :
    Own X w0 { w with heap := w.heap.setIfInBounds b (.map es clock) } (L.set j (mapr key val b g)) := by
  refine S.turn j hj (Keep.setObj w _) (fun _ _ h => h) ⟨es, clock, ?_, h⟩ (fun _ h => .inl h)
  have := MapOk.lt (S.at j hj)
  simp [this]
end

section
variable {κ α : Type} [DecidableEq κ] {key : κ → Value} {val : α → Value} {f : κ → Option α} {k0 : κ} {a0 : α} {P : Program} {E : Operand → Value} {w : World} {ty T kt et : TypeId} {x y : Operand} {d : TypeDesc} {b : Nat} {v z : Value}
omit [DecidableEq κ] in
theorem x_lookup (h : (mapr key val b f).ok w) (hK : KeyOk P kt d key) (hu : ∀ w, (underlying T).run P w = .ok (.map kt et) w) (hx : E x = .map (some b)) (hy : E y = key k0) (hz : ∀ w, (zeroValue et).run P w = .ok z w)
    (hv : ((f k0).elim z val) = v) : X P E (.lookup T x y false) ty w v w := by
  classical
  subst hv
  obtain ⟨es, clock, hb, hM⟩ := h
  refine ⟨nofun, fun _ _ _ _ => ?_⟩
  rcases hM.find hK k0 with ⟨h1, h2, _⟩ | ⟨a, j, e, h1, h2, _⟩
  · simp [execOp, Instr.lookup, hx, hy, Sem.run_bind, hu, Result.andThen, MapKept.run_getObj_map hb, MapKept.run_checkKey hK.u (hK.is k0), MapKept.run_findKey hK.u h2, hz, h1]
  · simp [execOp, Instr.lookup, hx, hy, Sem.run_bind, hu, Result.andThen, MapKept.run_getObj_map hb, MapKept.run_checkKey hK.u (hK.is k0), MapKept.run_findKey hK.u h2, h1]
omit [DecidableEq κ] in
theorem x_lookup2 {t : Bool} (h : (mapr key val b f).ok w) (hK : KeyOk P kt d key) (hu : ∀ w, (underlying T).run P w = .ok (.map kt et) w) (hx : E x = .map (some b)) (hy : E y = key k0) (hz : ∀ w, (zeroValue et).run P w = .ok z w)
    (hv : ((f k0).elim z val) = v) (ht : (f k0).isSome = t) : X P E (.lookup T x y true) ty w (.tuple #[v, .bool t]) w := by
  classical
  subst hv; subst ht
  obtain ⟨es, clock, hb, hM⟩ := h
  refine ⟨nofun, fun _ _ _ _ => ?_⟩
  rcases hM.find hK k0 with ⟨h1, h2, _⟩ | ⟨a, j, e, h1, h2, _⟩
  · simp [execOp, Instr.lookup, hx, hy, Sem.run_bind, hu, Result.andThen, MapKept.run_getObj_map hb, MapKept.run_checkKey hK.u (hK.is k0), MapKept.run_findKey hK.u h2, hz, h1]
  · simp [execOp, Instr.lookup, hx, hy, Sem.run_bind, hu, Result.andThen, MapKept.run_getObj_map hb, MapKept.run_checkKey hK.u (hK.is k0), MapKept.run_findKey hK.u h2, h1]
/-- A nil map has nothing. -/
theorem x_lookup0 (hu : ∀ w, (underlying T).run P w = .ok (.map kt et) w) (hk : P.underlying kt = some d) (hi : MapKept.IsKey d v) (hx : E x = .map none) (hy : E y = v) (hz : ∀ w, (zeroValue et).run P w = .ok z w) : X P E (.lookup T x y false) ty w z w := by
  refine ⟨nofun, fun _ _ _ _ => ?_⟩
  have h2 : Instr.findNow d v [] 0 = some none := rfl
  simp [execOp, Instr.lookup, hx, hy, Sem.run_bind, hu, Result.andThen, MapKept.run_checkKey hk hi, MapKept.run_findKey hk h2, hz]
theorem run_mapUpdate (h : (mapr key val b f).ok w) (hK : KeyOk P kt d key) (hu : ∀ w, (underlying T).run P w = .ok (.map kt et) w) :
    ∃ es clock, (Instr.mapUpdate T (.map (some b)) (key k0) (val a0)).run P w = .ok () { w with heap := w.heap.setIfInBounds b (.map es clock) } ∧ MapOk key val (mset f k0 a0) es clock := by
  obtain ⟨es, clock, hb, hM⟩ := h
  rcases hM.find hK k0 with ⟨_, h2, h3⟩ | ⟨a, j, e, _, h2, h3, h4, _⟩
  · exact ⟨_, _, by simp [Instr.mapUpdate, Sem.run_bind, hu, Result.andThen, MapKept.run_getObj_map hb, MapKept.run_checkKey hK.u (hK.is k0), MapKept.run_findKey hK.u h2, MapKept.run_setObj_map _ hb], hM.push hK h3 a0⟩
  · exact ⟨_, _, by simp [Instr.mapUpdate, Sem.run_bind, hu, Result.andThen, MapKept.run_getObj_map hb, MapKept.run_checkKey hK.u (hK.is k0), MapKept.run_findKey hK.u h2, h3, h4, MapKept.run_keyThatStays (hK.is k0), MapKept.run_setObj_map _ hb], hM.modify hK h3 h4 a0⟩
end

section
variable {P : Program} {b : Frame} {cs : List Frame} {fin : Machine → Prop} {n : Nat} {all : Array Oper} {rest : List Oper} {k : List Item} {ρ : Env} {ds : List Deferred} {w w' : World}
  {d : Nat} {ty : TypeId} {pos : String} {af : Array Edge} {g : Option (Nat × Bool)} {T kt et : TypeId} {x y z : Operand} {dk : TypeDesc}
  {κ α : Type} [DecidableEq κ] {key : κ → Value} {val : α → Value} {f : κ → Option α} {k0 : κ} {a0 : α} {X : Nat → Prop} {w0 : World} {L : List Rsc} {m : Nat} {d' : Option Nat}
omit [DecidableEq κ] in
theorem New.map (w : World) (key : κ → Value) (val : α → Value) : New w (w.alloc (.map #[] 0)) (mapr key val w.heap.size mnil) :=
  ⟨⟨#[], 0, (MapKept.heap_alloc w _).1, .nil⟩, fun b hb => by cases hb; simp⟩
theorem Le.alloc_map (w : World) : Le w (w.alloc (.map #[] 0)) := ⟨rfl, rfl, rfl, by simp, fun b hb _ => (MapKept.heap_alloc w _).2 b hb⟩
omit [DecidableEq κ] in
/-- A new map. -/
theorem l_makeMap (key : κ → Value) (val : α → Value) (S : Own X w0 w L) (hg : gOk all n ρ g = true)
    (h : ∀ m w', Own X w0 w' (L ++ [mapr key val m mnil]) → Le w w' → RunL P b cs fin n all rest k (upd ρ d (.map (some m))) ds w') :
    RunL P b cs fin n all (⟨some d, .makeMap T none, ty, pos, af, g⟩ :: rest) k ρ ds w :=
  l_x hg (v := .map (some w.heap.size)) (w' := w.alloc (.map #[] 0)) ⟨nofun, fun _ _ _ _ => by simp [execOp, Instr.makeMap, Result.andThen]⟩ (h _ _ (S.add (Le.alloc_map w) (New.map w key val)) (Le.alloc_map w))
/-- An entry is written. -/
theorem l_mapUpdate (S : Own X w0 w L) (j : Nat) (hj : L[j]? = some (mapr key val m f)) (hg : gOk all n ρ g = true) (hK : KeyOk P kt dk key) (hu : ∀ w, (underlying T).run P w = .ok (.map kt et) w)
    (hx : ev n ρ x = .map (some m)) (hy : ev n ρ y = key k0) (hz : ev n ρ z = val a0)
    (h : ∀ w', Own X w0 w' (L.set j (mapr key val m (mset f k0 a0))) → Keep (· = m) w w' → RunL P b cs fin n all rest k (updO d' undef ρ) ds w') :
    RunL P b cs fin n all (⟨d', .mapUpdate T x y z, ty, pos, af, g⟩ :: rest) k ρ ds w := by
  obtain ⟨es, clock, h1, h2⟩ := run_mapUpdate (k0 := k0) (a0 := a0) (S.at j hj) hK hu
  refine l_skip hg nofun ?_ (h _ (S.setMap j hj h2) (Keep.setObj w _))
  simp only [execOp, hx, hy, hz, Sem.run_bind, h1, Result.andThen_ok, Sem.run_pure]
theorem l_insert (S : Own X w0 w L) (j : Nat) (hj : L[j]? = some (mapr key val m f)) (hg : gOk all n ρ g = true) (hK : KeyOk P kt dk key) (hu : ∀ w, (underlying T).run P w = .ok (.map kt et) w)
    (hx : ev n ρ x = .map (some m)) (hy : ev n ρ y = key k0) (hz : ev n ρ z = val a0)
    (h : ∀ w', Own X w0 w' (L.set j (mapr key val m (mset f k0 a0))) → Keep (· = m) w w' → RunL P b cs fin n all rest k (updO d' undef ρ) ds w') :
    RunL P b cs fin n all (⟨d', .insert T x y z, ty, pos, af, g⟩ :: rest) k ρ ds w := by
  obtain ⟨es, clock, h1, h2⟩ := run_mapUpdate (k0 := k0) (a0 := a0) (S.at j hj) hK hu
  refine l_skip hg nofun ?_ (h _ (S.setMap j hj h2) (Keep.setObj w _))
  simp only [execOp, hx, hy, hz, Sem.run_bind, h1, Result.andThen_ok, Sem.run_pure]
end
end Go.Vk

/- Nets, as plain mathematics, part 18: how circles are checked. No program in sight. -/
namespace Go.Vk
open Go
/-- A slice reads as one list alone. -/
theorem rd_inj {α : Type} {E : Elt α} {w : World} {v : Value} {l l' : List α} (hi : ∀ a b, E.enc a = E.enc b → a = b) (h : Rd E w v l) (h' : Rd E w v l') : l = l' := by
  obtain ⟨p, cap, hv, _, h1⟩ := h
  obtain ⟨p', cap', hv', _, h2⟩ := h'
  rw [hv] at hv'
  simp only [Value.slice.injEq] at hv'
  obtain ⟨rfl, hl, _⟩ := hv'
  refine List.ext_getElem? fun i => ?_
  rcases Nat.lt_or_ge i l.length with hlt | hge
  · obtain ⟨a, ha⟩ : ∃ a, l[i]? = some a := ⟨_, List.getElem?_eq_getElem hlt⟩
    obtain ⟨b, hb⟩ : ∃ b, l'[i]? = some b := ⟨_, List.getElem?_eq_getElem (by omega)⟩
    obtain ⟨k, o, e1, r1⟩ := h1 i a ha
    obtain ⟨k', o', e2, r2⟩ := h2 i b hb
    rw [e1] at e2
    simp only [Option.some.injEq, Addr.mk.injEq, and_true] at e2
    obtain ⟨rfl, rfl⟩ := e2
    rw [ha, hb]
    congr 1
    refine hi a b (List.ext_getElem? fun j => ?_)
    rcases Nat.lt_or_ge j E.sz with hj | hj
    · obtain ⟨x, hx⟩ : ∃ x, (E.enc a)[j]? = some x := ⟨_, List.getElem?_eq_getElem (by rw [E.len]; exact hj)⟩
      obtain ⟨y, hy⟩ : ∃ y, (E.enc b)[j]? = some y := ⟨_, List.getElem?_eq_getElem (by rw [E.len]; exact hj)⟩
      have q1 := r1 j x hx
      rw [r2 j y hy] at q1
      rw [hx, hy, q1]
    · rw [List.getElem?_eq_none (by rw [E.len]; exact hj), List.getElem?_eq_none (by rw [E.len]; exact hj)]
  · rw [List.getElem?_eq_none hge, List.getElem?_eq_none (by omega)]
theorem intE_inj {T : TypeId} (a b : Int) (h : (intE T).enc a = (intE T).enc b) : a = b := by
  simpa [intE] using h
end Go.Vk
namespace Go.Vk.Flow
open Go
/-- A circle in a slice: the header of its arcs, and its amount. -/
def cirE (T : TypeId) : Elt (Hd × Int) where
  T := T
  sz := 2
  enc p := [hv p.1, .int .i64 p.2]
  zero := [.slice none 0 0, .int .i64 0]
  len _ := rfl
  zlen := rfl
  one a x h := by simp at h; rcases h with h | h <;> subst h <;> rfl
  pos := by decide

open Classical in
noncomputable def cirB (arcs : List Arc) (c : Crc) : Bool := decide (Cir arcs c)
open Classical in
theorem cirB_iff {arcs : List Arc} {c : Crc} : cirB arcs c = true ↔ Cir arcs c := by unfold cirB; exact decide_eq_true_iff
theorem cirB_no {arcs : List Arc} {c : Crc} (h : ¬ Cir arcs c) : cirB arcs c = false := by
  cases hc : cirB arcs c with
  | false => rfl
  | true => exact absurd (cirB_iff.1 hc) h
/-- The first nodes of the arcs before k. -/
def Seen (arcs : List Arc) (l : List Int) (k : Nat) (v : Int) : Prop := ∃ (j : Nat) (i : Int) (a : Arc), j < k ∧ l[j]? = some i ∧ arcs[i.toNat]? = some a ∧ a.src = v
open Classical in
noncomputable def seenB (arcs : List Arc) (l : List Int) (k : Nat) (v : Int) : Bool := decide (Seen arcs l k v)
noncomputable def seenM (arcs : List Arc) (l : List Int) (k : Nat) : Int → Option Bool := fun v => if seenB arcs l k v = true then some true else none
noncomputable def seenL (N : Int) (arcs : List Arc) (l : List Int) (k : Nat) : List Bool := (List.range N.toNat).map fun (v : Nat) => seenB arcs l k (v : Int)
section
variable {N : Int} {arcs : List Arc} {l : List Int} {k : Nat} {m i v : Int} {a b : Arc} {Ld : Nat → Prop}
open Classical in
theorem seenB_iff : seenB arcs l k v = true ↔ Seen arcs l k v := by unfold seenB; exact decide_eq_true_iff
theorem Seen.zero : ¬ Seen arcs l 0 v := fun ⟨_, _, _, h, _⟩ => absurd h (Nat.not_lt_zero _)
theorem seenB_zero : seenB arcs l 0 v = false := by
  cases h : seenB arcs l 0 v with
  | false => rfl
  | true => exact absurd (seenB_iff.1 h) Seen.zero
theorem seen_step (hi : l[k]? = some i) (ha : arcs[i.toNat]? = some a) : Seen arcs l (k + 1) v ↔ v = a.src ∨ Seen arcs l k v := by
  constructor
  · rintro ⟨j, i', a', hj, h1, h2, h3⟩
    rcases Nat.lt_or_ge j k with hlt | hge
    · exact .inr ⟨j, i', a', hlt, h1, h2, h3⟩
    · have : j = k := by omega
      subst this
      rw [hi] at h1; cases h1
      rw [ha] at h2; cases h2
      exact .inl h3.symm
  · rintro (rfl | ⟨j, i', a', hj, h1⟩)
    · exact ⟨k, i, a, by omega, hi, ha, rfl⟩
    · exact ⟨j, i', a', by omega, h1⟩
theorem seenB_step (hi : l[k]? = some i) (ha : arcs[i.toNat]? = some a) : seenB arcs l (k + 1) v = (if v = a.src then true else seenB arcs l k v) := by
  rw [Bool.eq_iff_iff, seenB_iff, seen_step hi ha]
  split
  · next h => exact ⟨fun _ => rfl, fun _ => .inl h⟩
  · next h => rw [seenB_iff]; exact ⟨fun hh => hh.resolve_left h, .inr⟩
theorem seenM_zero : seenM arcs l 0 = fun _ => none := by funext v; unfold seenM; rw [seenB_zero]; rfl
theorem seenM_val : (seenM arcs l k v).elim (.bool false) Value.bool = .bool (seenB arcs l k v) := by
  unfold seenM
  cases h : seenB arcs l k v with
  | false => rfl
  | true => rfl
theorem seenL_zero : seenL N arcs l 0 = List.replicate N.toNat false := by
  unfold seenL
  have : (fun v : Nat => seenB arcs l 0 (v : Int)) = fun _ => false := by funext v; exact seenB_zero
  rw [this]; simp [List.map_const']
theorem seenL_len : (seenL N arcs l k).length = N.toNat := by simp [seenL]
theorem seenL_get (hv : 0 ≤ v ∧ v < N) : (seenL N arcs l k)[v.toNat]? = some (seenB arcs l k v) := by
  unfold seenL
  have h1 : v.toNat < N.toNat := by omega
  have h2 : ((v.toNat : Nat) : Int) = v := by omega
  simp [h1, h2]
theorem seenL_step (hi : l[k]? = some i) (ha : arcs[i.toNat]? = some a) (hs : 0 ≤ a.src ∧ a.src < N) : (seenL N arcs l k).set a.src.toNat true = seenL N arcs l (k + 1) := by
  unfold seenL
  have e : ((a.src.toNat : Nat) : Int) = a.src := by omega
  refine map_set (by omega) ?_ fun v hv => ?_
  · rw [seenB_step hi ha, e, if_pos rfl]
  · rw [seenB_step hi ha, if_neg (by omega)]

/-- In the midst of the check of a circle; Ld: what is asked of two neighbours. -/
structure CirI (arcs : List Arc) (l : List Int) (Ld : Nat → Prop) (k : Nat) : Prop where
  ok : ∀ (j : Nat) (i : Int), j < k → l[j]? = some i → 0 ≤ i ∧ i < arcs.length
  lead : ∀ j : Nat, j < k → Ld j
  once : ∀ (j j' : Nat) (i i' : Int) (a a' : Arc), j < k → j' < k → l[j]? = some i → l[j']? = some i' → arcs[i.toNat]? = some a → arcs[i'.toNat]? = some a' → a.src = a'.src → j = j'
theorem CirI.zero : CirI arcs l Ld 0 := ⟨fun _ _ h => absurd h (Nat.not_lt_zero _), fun _ h => absurd h (Nat.not_lt_zero _), fun _ _ _ _ _ _ h => absurd h (Nat.not_lt_zero _)⟩
theorem CirI.step (h : CirI arcs l Ld k) (hi : l[k]? = some i) (hr : 0 ≤ i ∧ i < arcs.length) (ha : arcs[i.toNat]? = some a) (hL : Ld k) (hs : seenB arcs l k a.src = false) : CirI arcs l Ld (k + 1) := by
  have hn : ¬ Seen arcs l k a.src := fun hh => by rw [seenB_iff.2 hh] at hs; cases hs
  refine ⟨fun j i' hj hi' => ?_, fun j hj => ?_, fun j j' i1 i2 a1 a2 hj hj' h1 h2 h3 h4 e => ?_⟩
  · rcases Nat.lt_or_ge j k with hlt | hge
    · exact h.ok j i' hlt hi'
    · have : j = k := by omega
      subst this
      rw [hi] at hi'; cases hi'; exact hr
  · rcases Nat.lt_or_ge j k with hlt | hge
    · exact h.lead j hlt
    · have : j = k := by omega
      subst this; exact hL
  · rcases Nat.lt_or_ge j k with hlt | hge
    · rcases Nat.lt_or_ge j' k with hlt' | hge'
      · exact h.once j j' i1 i2 a1 a2 hlt hlt' h1 h2 h3 h4 e
      · have : j' = k := by omega
        subst this
        rw [hi] at h2; cases h2
        rw [ha] at h4; cases h4
        exact absurd ⟨j, i1, a1, hlt, h1, h3, e⟩ hn
    · have : j = k := by omega
      subst this
      rw [hi] at h1; cases h1
      rw [ha] at h3; cases h3
      rcases Nat.lt_or_ge j' j with hlt' | hge'
      · exact absurd ⟨j', i2, a2, hlt', h2, h4, e.symm⟩ hn
      · omega
/-- The next one, and the one before. -/
def nx (n k : Nat) : Nat := (k + 1) % n
def bf (n k : Nat) : Nat := (k + n - 1) % n
theorem nx_lt {n : Nat} (h : 0 < n) : nx n k < n := Nat.mod_lt _ h
theorem bf_lt {n : Nat} (h : 0 < n) : bf n k < n := Nat.mod_lt _ h
theorem bf_nx {n : Nat} (h : k < n) : bf n (nx n k) = k := by
  unfold bf nx
  rcases Nat.lt_or_ge (k + 1) n with hlt | hge
  · rw [Nat.mod_eq_of_lt hlt, show k + 1 + n - 1 = k + n by omega, Nat.add_mod_right, Nat.mod_eq_of_lt h]
  · have e : k + 1 = n := by omega
    rw [e, Nat.mod_self, show 0 + n - 1 = k by omega, Nat.mod_eq_of_lt h]
theorem nx_bf {n : Nat} (h : k < n) : nx n (bf n k) = k := by
  rcases Nat.eq_zero_or_pos k with h0 | h0
  · have e : bf n k = n - 1 := by
      unfold bf
      rw [h0, Nat.zero_add]
      exact Nat.mod_eq_of_lt (by omega)
    unfold nx
    rw [e, show n - 1 + 1 = n by omega, Nat.mod_self, h0]
  · have e : bf n k = k - 1 := by
      unfold bf
      rw [show k + n - 1 = k - 1 + n by omega, Nat.add_mod_right]
      exact Nat.mod_eq_of_lt (by omega)
    unfold nx
    rw [e, show k - 1 + 1 = k by omega, Nat.mod_eq_of_lt h]
abbrev LdN (arcs : List Arc) (l : List Int) (k : Nat) : Prop := Leads arcs l k (nx l.length k)
abbrev LdB (arcs : List Arc) (l : List Int) (k : Nat) : Prop := Leads arcs l (bf l.length k) k
theorem CirI.doneN (h : CirI arcs l (LdN arcs l) l.length) (h0 : 0 < l.length) (hm : 1 ≤ m ∧ m ≤ 1000000) : cirB arcs (l, m) = true := by
  refine cirB_iff.2 ⟨h0, hm, fun i hi => ?_, fun k hk => h.lead k hk, fun j j' i i' a a' h1 h2 => h.once j j' i i' a a' (List.getElem?_eq_some_iff.1 h1).1 (List.getElem?_eq_some_iff.1 h2).1 h1 h2⟩
  obtain ⟨j, hj, e⟩ := List.mem_iff_getElem.1 hi
  exact h.ok j i hj (by rw [List.getElem?_eq_getElem hj, e])
theorem CirI.doneB (h : CirI arcs l (LdB arcs l) l.length) (h0 : 0 < l.length) (hm : 1 ≤ m ∧ m ≤ 1000000) : cirB arcs (l, m) = true := by
  refine CirI.doneN ⟨h.ok, fun k hk => ?_, h.once⟩ h0 hm
  have := h.lead (nx l.length k) (nx_lt h0)
  unfold LdB at this
  rw [bf_nx hk] at this
  exact this
theorem no_len (h : l.length = 0) : cirB arcs (l, m) = false := cirB_no fun hc => by have := hc.ne; simp only at this; omega
theorem no_am (h : ¬ (1 ≤ m ∧ m ≤ 1000000)) : cirB arcs (l, m) = false := cirB_no fun hc => h hc.am
theorem no_ok (hi : l[k]? = some i) (h : ¬ (0 ≤ i ∧ i < arcs.length)) : cirB arcs (l, m) = false := cirB_no fun hc => h (hc.ok i (List.mem_of_getElem? hi))
theorem no_leadN {i' : Int} (hi : l[k]? = some i) (hi' : l[nx l.length k]? = some i') (ha : arcs[i.toNat]? = some a) (hb : arcs[i'.toNat]? = some b) (h : ¬ a.dst = b.src) : cirB arcs (l, m) = false :=
  cirB_no fun hc => h (hc.lead k (List.getElem?_eq_some_iff.1 hi).1 i i' a b hi hi' ha hb)
theorem no_leadB {i' : Int} (hi : l[bf l.length k]? = some i) (hi' : l[k]? = some i') (ha : arcs[i.toNat]? = some a) (hb : arcs[i'.toNat]? = some b) (h : ¬ a.dst = b.src) : cirB arcs (l, m) = false :=
  no_leadN hi (by rw [nx_bf (List.getElem?_eq_some_iff.1 hi').1]; exact hi') ha hb h
theorem no_once (hi : l[k]? = some i) (ha : arcs[i.toNat]? = some a) (h : seenB arcs l k a.src = true) : cirB arcs (l, m) = false := cirB_no fun hc => by
  obtain ⟨j, i', a', hj, h1, h2, h3⟩ := seenB_iff.1 h
  have := hc.once j k i' i a' a h1 hi h2 ha h3
  omega
theorem leads_of {j j' : Nat} {i' : Int} (hi : l[j]? = some i) (hi' : l[j']? = some i') (ha : arcs[i.toNat]? = some a) (hb : arcs[i'.toNat]? = some b) (h : a.dst = b.src) : Leads arcs l j j' := by
  intro i1 i2 a1 a2 h1 h2 h3 h4
  rw [hi] at h1; cases h1
  rw [hi'] at h2; cases h2
  rw [ha] at h3; cases h3
  rw [hb] at h4; cases h4
  exact h
theorem nx_cast {n : Nat} : ((k : Int) + 1) % (n : Int) = ((nx n k : Nat) : Int) := by unfold nx; rw [Int.natCast_emod, Int.natCast_add]; rfl
theorem bf_cast {n : Nat} (h : 0 < n) : ((k : Int) + (n : Int) - 1) % (n : Int) = ((bf n k : Nat) : Int) := by
  unfold bf; rw [Int.natCast_emod]; congr 1; omega
theorem seenM_step (hi : l[k]? = some i) (ha : arcs[i.toNat]? = some a) : mset (seenM arcs l k) a.src true = seenM arcs l (k + 1) := by
  funext v
  unfold mset seenM
  rw [seenB_step hi ha]
  by_cases e : v = a.src
  · rw [if_pos e, if_pos e, if_pos rfl]
  · rw [if_neg e, if_neg e]
end

/-! ### circles that are read -/
structure CsR (TI TC : TypeId) (w : World) (v : Value) (ds : List (Hd × Int)) (cs : List Crc) : Prop where
  rd : Rd (cirE TC) w v ds
  len : ds.length = cs.length
  each : ∀ (i : Nat) (d : Hd × Int) (c : Crc), ds[i]? = some d → cs[i]? = some c → Rd (intE TI) w (hv d.1) c.1 ∧ d.2 = c.2
open Classical in
noncomputable def cirP (arcs : List Arc) (ds : List (Hd × Int)) (cs : List Crc) (d : Hd × Int) : Bool := decide (∃ (i : Nat) (c : Crc), ds[i]? = some d ∧ cs[i]? = some c ∧ ¬ Cir arcs c)
section
variable {TI TC : TypeId} {w w' : World} {v : Value} {ds : List (Hd × Int)} {cs : List Crc} {arcs : List Arc}
theorem CsR.le (h : CsR TI TC w v ds cs) (hl : Le w w') : CsR TI TC w' v ds cs := ⟨h.rd.le hl, h.len, fun i d c h1 h2 => ⟨(h.each i d c h1 h2).1.le hl, (h.each i d c h1 h2).2⟩⟩
open Classical in
theorem CsR.val (h : CsR TI TC w v ds cs) {i : Nat} {d : Hd × Int} {c : Crc} (hd : ds[i]? = some d) (hc : cs[i]? = some c) : cirP arcs ds cs d = !cirB arcs c := by
  rw [Bool.eq_iff_iff, Bool.not_eq_true', Bool.eq_false_iff, ne_eq, cirB_iff]
  unfold cirP
  rw [decide_eq_true_iff]
  constructor
  · rintro ⟨j, c', h1, h2, h3⟩
    have q1 := h.each i d c hd hc
    have q2 := h.each j d c' h1 h2
    have e : c' = c := Prod.ext (rd_inj intE_inj q2.1 q1.1) (q2.2.symm.trans q1.2)
    rw [← e]; exact h3
  · intro hn; exact ⟨i, c, hd, hc, hn⟩
theorem CsR.any (h : CsR TI TC w v ds cs) : ds.any (cirP arcs ds cs) = true ↔ ∃ c ∈ cs, ¬ Cir arcs c := by
  rw [List.any_eq_true]
  constructor
  · rintro ⟨d, hd, hp⟩
    obtain ⟨i, hi⟩ := List.mem_iff_getElem?.1 hd
    obtain ⟨c, hc⟩ : ∃ c, cs[i]? = some c := ⟨_, List.getElem?_eq_getElem (by have := (List.getElem?_eq_some_iff.1 hi).1; rw [← h.len]; exact this)⟩
    rw [h.val hi hc, Bool.not_eq_true', Bool.eq_false_iff, ne_eq, cirB_iff] at hp
    exact ⟨c, List.mem_of_getElem? hc, hp⟩
  · rintro ⟨c, hc, hn⟩
    obtain ⟨i, hi⟩ := List.mem_iff_getElem?.1 hc
    obtain ⟨d, hd⟩ : ∃ d, ds[i]? = some d := ⟨_, List.getElem?_eq_getElem (by have := (List.getElem?_eq_some_iff.1 hi).1; rw [h.len]; exact this)⟩
    refine ⟨d, List.mem_of_getElem? hd, ?_⟩
    rw [h.val hd hi, Bool.not_eq_true', Bool.eq_false_iff, ne_eq, cirB_iff]
    exact hn
theorem CsR.all (h : CsR TI TC w v ds cs) (hf : ds.any (cirP arcs ds cs) = false) : ∀ c ∈ cs, Cir arcs c := fun c hc => Classical.byContradiction fun hn => by
  rw [h.any.2 ⟨c, hc, hn⟩] at hf; cases hf
theorem any_big {n : Nat} {f : Nat → Int} : ((tabL n f).any fun z => decide (1000000 < z)) = true ↔ ∃ i, i < n ∧ 1000000 < f i := by
  simp [tabL]
theorem any_small {n : Nat} {f : Nat → Int} (h : ((tabL n f).any fun z => decide (1000000 < z)) = false) : ∀ i, i < n → ¬ 1000000 < f i := fun i hi hh => by
  rw [any_big.2 ⟨i, hi, hh⟩] at h; cases h
end
end Go.Vk.Flow

/- The proof engine, part 26: a slice of slices that grows; circles of one's own. -/
namespace Go.Vk
open Go
section
variable {X : Nat → Prop} {w0 w : World} {A M : List Rsc} {r : Rsc}
theorem pack_snoc_ok (h : (Vk.pack [Vk.pack M, r]).ok w) : (Vk.pack (M ++ [r])).ok w := by
  obtain ⟨h1, h2⟩ := h
  have hM := h1 (Vk.pack M) (by simp)
  have hr := h1 r (by simp)
  refine ⟨fun s hs => ?_, fun j k s t hj hk hne b hb hb' => ?_⟩
  · rcases List.mem_append.1 hs with hs | hs
    · exact hM.1 s hs
    · simp at hs; subst hs; exact hr
  · rcases getElem?_snoc hj with ⟨_, hj'⟩ | ⟨ej, rfl⟩
    · rcases getElem?_snoc hk with ⟨_, hk'⟩ | ⟨ek, rfl⟩
      · exact hM.2 j k s t hj' hk' hne b hb hb'
      · exact h2 0 1 _ _ rfl rfl (by decide) b ⟨s, List.mem_of_getElem? hj', hb⟩ hb'
    · rcases getElem?_snoc hk with ⟨_, hk'⟩ | ⟨ek, rfl⟩
      · exact h2 0 1 _ _ rfl rfl (by decide) b ⟨t, List.mem_of_getElem? hk', hb'⟩ hb
      · omega
theorem Own.packSnoc (S : Own X w0 w (A ++ [Vk.pack M, r])) : Own X w0 w (A ++ [Vk.pack (M ++ [r])]) := by
  have h1 := S.pack (L := [Vk.pack M, r])
  have h2 := h1.as A.length (r := Vk.pack [Vk.pack M, r]) (by simp) (r' := Vk.pack (M ++ [r])) (pack_snoc_ok (h1.at A.length (by simp))) (fun b hb => by
    obtain ⟨s, hs, hb⟩ := hb
    rcases List.mem_append.1 hs with hs | hs
    · exact ⟨Vk.pack M, by simp, s, hs, hb⟩
    · simp at hs; subst hs; exact ⟨s, by simp, hb⟩)
  rwa [List.set_append_right _ _ (Nat.le_refl _), Nat.sub_self] at h2
theorem nest_snoc {α : Type} {E : Elt α} {hs : List Hd} {ls : List (List α)} {h : Hd} {l : List α} (e : hs.length = ls.length) : nest E hs ls ++ [vec E (hv h) l] = nest E (hs ++ [h]) (ls ++ [l]) := by
  unfold nest
  rw [List.zipWith_append e]
  rfl
end
end Go.Vk
namespace Go.Vk.Flow
open Go
/-- Headers with amounts are those of circles. -/
structure Fit (ds : List (Hd × Int)) (zs : List Crc) : Prop where
  len : ds.length = zs.length
  am : ∀ (i : Nat) (d : Hd × Int) (c : Crc), ds[i]? = some d → zs[i]? = some c → d.2 = c.2
section
variable {ds : List (Hd × Int)} {zs : List Crc} {h : Hd} {l x : List Int} {m : Int} {TI TC : TypeId} {w : World} {v : Value} {arcs : List Arc} {c : Crc}
theorem Fit.nil : Fit [] [] := ⟨rfl, fun _ _ _ h => by simp at h⟩
theorem Fit.snoc (hf : Fit ds zs) : Fit (ds ++ [(h, m)]) (zs ++ [(l, m)]) := by
  refine ⟨by simp [hf.len], fun i d c h1 h2 => ?_⟩
  rcases Nat.lt_or_ge i ds.length with hlt | hge
  · rw [List.getElem?_append_left hlt] at h1
    rw [List.getElem?_append_left (by have := hf.len; omega)] at h2
    exact hf.am i d c h1 h2
  · rw [List.getElem?_append_right hge] at h1
    rw [List.getElem?_append_right (by have := hf.len; omega)] at h2
    have e : i - zs.length = i - ds.length := by rw [hf.len]
    rw [e] at h2
    cases hi : i - ds.length with
    | zero => rw [hi] at h1 h2; simp at h1 h2; subst h1; subst h2; rfl
    | succ k => rw [hi] at h1; simp at h1
theorem nest_cirs {E : Elt Int} (hf : Fit ds zs) : nest E (ds.map (·.1)) (zs.map (·.1)) ++ [vec E (hv h) l] = nest E ((ds ++ [(h, m)]).map (·.1)) ((zs ++ [(l, m)]).map (·.1)) := by
  rw [nest_snoc (by simp [hf.len]), List.map_append, List.map_append]; rfl
/-- Circles of one's own are read. -/
theorem csr_of (h1 : (vec (cirE TC) v ds).ok w) (h2 : (pack (nest (intE TI) (ds.map (·.1)) (zs.map (·.1)))).ok w) (hf : Fit ds zs) : CsR TI TC w v ds zs :=
  ⟨vec_rd h1, hf.len, fun i d c hd hc => ⟨nest_rd (j := i) h2 (by rw [List.getElem?_map, hd]; rfl) (by rw [List.getElem?_map, hc]; rfl), hf.am i d c hd hc⟩⟩
theorem subl_le (hc : Cir arcs c) (hx : x.length = arcs.length) (u : Nat) : nth (subl x c.1 c.2) u ≤ nth x u := by
  have hn := subl_nth hc hx c.1.length (Nat.le_refl _) u
  rw [List.take_length] at hn
  rw [hn]
  have := hc.am
  split <;> omega
theorem least_pos : ∀ (l : List Int) (m : Int), 1 ≤ m → (∀ i ∈ l, 0 < nth x i.toNat) → 1 ≤ least x m l := by
  intro l m hm h
  obtain ⟨_, _, h3⟩ := least_le (x := x) l m
  rcases h3 with h3 | ⟨i, hi, h3⟩
  · omega
  · have := h i hi; omega
/-- The first of a list is among those of which the least is taken. -/
theorem least_in {i0 : Int} (h0 : l[0]? = some i0) : ∃ i ∈ l, least x (nth x i0.toNat) l = nth x i.toNat := by
  obtain ⟨_, _, h3⟩ := least_le (x := x) l (nth x i0.toNat)
  rcases h3 with h3 | ⟨i, hi, h3⟩
  · exact ⟨i0, List.mem_of_getElem? h0, h3⟩
  · exact ⟨i, hi, h3⟩
theorem zero_step {L : List Int} {i : Nat} (h : ∀ j, j < i → ¬ 0 < nth L j) (hi : ¬ 0 < nth L i) : ∀ j, j < i + 1 → ¬ 0 < nth L j := by
  intro j hj
  rcases Nat.lt_or_ge j i with hlt | hge
  · exact h j hlt
  · have : j = i := by omega
    subst this; exact hi
end
end Go.Vk.Flow
