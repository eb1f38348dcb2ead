/- Texts joined for claims: VkMaps2, VkOps4, VkDeedMem, VkDeedChk, VkOps5, VkOps6. -/
import Derived.Test.YtlegfcmlfhlokaaGreatK8521e6cdc8
import Derived.Laws.IdiomRangeMap
set_option linter.unusedVariables false
set_option linter.unusedSimpArgs false
set_option linter.unusedSectionVars false
/- The proof engine, part 28: ranges over maps; what is taken out of a map. Generic over the program. -/
namespace Go.Vk
open Go
set_option linter.unusedSectionVars false
set_option linter.unusedVariables false

/-- The entries that have come, and what they say. -/
structure ItOk {κ α : Type} (key : κ → Value) (val : α → Value) (es : Array MapEntry) (vs : List MapEntry) (vis : List (κ × α)) : Prop where
  sub : ∀ x ∈ vs, x ∈ es.toList
  nd : (vs.map (·.born)).Nodup
  eq : vs.map (fun x => (x.key, x.val)) = vis.map fun p => (key p.1, val p.2)
/-- The iterator of a range over the map in block m. -/
def itr {κ α : Type} (key : κ → Value) (val : α → Value) (b m : Nat) (es : Array MapEntry) (clock : Nat) (vis : List (κ × α)) : Rsc :=
  ⟨(· = b), fun w => ∃ vs, w.heap[b]? = some (.mapIter (some m) clock (vs.map (·.born)).toArray clock) ∧ ItOk key val es vs vis, by intro w w' h hh; obtain ⟨vs, h1, h2⟩ := hh; exact ⟨vs, (h b rfl).trans h1, h2⟩⟩

section
variable {κ α : Type} {key : κ → Value} {val : α → Value} {f : κ → Option α} {es : Array MapEntry} {clock : Nat} {k : κ} {a : α} {vs : List MapEntry} {vis : List (κ × α)} {P : Program} {kt : TypeId} {d : TypeDesc}
theorem ItOk.nil : ItOk key val es [] ([] : List (κ × α)) := ⟨by simp, by simp, rfl⟩
theorem ItOk.left (h : ItOk key val es vs vis) (e : MapEntry) (he : e ∈ (leftOf es (vs.map (·.born)).toArray).toList) : e ∈ es.toList ∧ e.born ∉ vs.map (·.born) := by
  unfold leftOf at he
  simp only [Array.toList_filter, List.mem_filter, Bool.not_eq_true', List.contains_toArray] at he
  exact ⟨he.1, fun hh => by have := he.2; simp at this; obtain ⟨x, hx, e1⟩ := List.mem_map.1 hh; exact this x hx e1⟩
/-- All have come. -/
theorem ItOk.all (h : ItOk key val es vs vis) (hM : MapOk key val f es clock) (hK : KeyOk P kt d key) (hval : ∀ a a', val a = val a' → a = a') (h0 : (leftOf es (vs.map (·.born)).toArray).size = 0) : ∀ k a, f k = some a → (k, a) ∈ vis := by
  intro k a hf
  obtain ⟨x, hx, e1, e2⟩ := hM.all k a hf
  have hin : x.born ∈ vs.map (·.born) := by
    refine Classical.byContradiction fun hn => ?_
    have : x ∈ (leftOf es (vs.map (·.born)).toArray).toList := by
      unfold leftOf
      simp only [Array.toList_filter, List.mem_filter]
      refine ⟨hx, ?_⟩
      simp only [Bool.not_eq_true', List.contains_toArray]
      simp
      intro y hy e
      exact hn (List.mem_map.2 ⟨y, hy, e⟩)
    have h1 := List.length_pos_of_mem this
    rw [Array.length_toList, h0] at h1
    omega
  obtain ⟨y, hy, e3⟩ := List.mem_map.1 hin
  have hy' := h.sub y hy
  have hxy : y = x := by
    have hn := List.pairwise_iff_getElem.1 (show (es.toList.map (·.born)).Pairwise (· ≠ ·) from hM.st.2.1)
    obtain ⟨i, hi, q1⟩ := List.mem_iff_getElem.1 hx
    obtain ⟨j, hj, q2⟩ := List.mem_iff_getElem.1 hy'
    rcases Nat.lt_trichotomy i j with hlt | hlt | hlt
    · have := hn i j (by simpa using hi) (by simpa using hj) hlt
      simp only [List.getElem_map, q1, q2] at this
      exact absurd e3.symm this
    · subst hlt; exact q2.symm.trans q1
    have := hn j i (by simpa using hj) (by simpa using hi) hlt
    simp only [List.getElem_map, q1, q2] at this
    exact absurd e3 this
  subst hxy
  have h4 : (y.key, y.val) ∈ vis.map fun p => (key p.1, val p.2) := by rw [← h.eq]; exact List.mem_map.2 ⟨y, hy, rfl⟩
  obtain ⟨p, hp, e5⟩ := List.mem_map.1 h4
  simp only [Prod.mk.injEq] at e5
  have : p = (k, a) := Prod.ext (hK.inj _ _ (e5.1.trans e1)) (hval _ _ (e5.2.trans e2))
  rw [← this]; exact hp
/-- One more. -/
theorem ItOk.more (h : ItOk key val es vs vis) (hM : MapOk key val f es clock) (hK : KeyOk P kt d key) {e : MapEntry} (he : e ∈ (leftOf es (vs.map (·.born)).toArray).toList) :
    ∃ k a, e.key = key k ∧ e.val = val a ∧ f k = some a ∧ (∀ p ∈ vis, p.1 ≠ k) ∧ ItOk key val es (vs ++ [e]) (vis ++ [(k, a)]) := by
  obtain ⟨h1, h2⟩ := h.left e he
  obtain ⟨k, a, e1, e2, e3⟩ := hM.of e h1
  refine ⟨k, a, e1, e2, e3, fun p hp ek => ?_, fun x hx => ?_, ?_, by rw [List.map_append, List.map_append, h.eq]; simp [e1, e2]⟩
  · have h4 : (key p.1, val p.2) ∈ vs.map (fun x => (x.key, x.val)) := by rw [h.eq]; exact List.mem_map.2 ⟨p, hp, rfl⟩
    obtain ⟨y, hy, e5⟩ := List.mem_map.1 h4
    simp only [Prod.mk.injEq] at e5
    have hy' := h.sub y hy
    have hn := List.pairwise_iff_getElem.1 (show (es.toList.map (·.key)).Pairwise (· ≠ ·) from hM.st.2.2)
    obtain ⟨i, hi, q1⟩ := List.mem_iff_getElem.1 h1
    obtain ⟨j, hj, q2⟩ := List.mem_iff_getElem.1 hy'
    have hkk : y.key = e.key := by rw [e5.1, e1, ek]
    rcases Nat.lt_trichotomy i j with hlt | hlt | hlt
    · have := hn i j (by simpa using hi) (by simpa using hj) hlt
      simp only [List.getElem_map, q1, q2] at this
      exact absurd hkk.symm this
    · subst hlt
      have : y = e := q2.symm.trans q1
      subst this
      exact h2 (List.mem_map.2 ⟨y, hy, rfl⟩)
    have := hn j i (by simpa using hj) (by simpa using hi) hlt
    simp only [List.getElem_map, q1, q2] at this
    exact absurd hkk this
  · rcases List.mem_append.1 hx with hx | hx
    · exact h.sub x hx
    simp at hx; subst hx; exact h1
  rw [List.map_append]
  refine List.nodup_append.2 ⟨h.nd, by simp, fun x hx y hy => ?_⟩
  simp at hy; subst hy
  exact fun e => h2 (e ▸ hx)
theorem run_next_at {w : World} {ty : TypeId} {b m : Nat} {vs : List MapEntry} (hi : w.heap[b]? = some (.mapIter (some m) clock (vs.map (·.born)).toArray clock)) (hb : w.heap[m]? = some (.map es clock)) (hold : ∀ x ∈ es.toList, x.born < clock) :
    ((leftOf es (vs.map (·.born)).toArray).size = 0 ∧ (Instr.next (.pointer (some ⟨b, 0, none⟩)) false ty).run P w = .ok (.tuple #[.bool false]) w) ∨
    ∃ e ∈ (leftOf es (vs.map (·.born)).toArray).toList, ∃ n, w.drawn ≤ n ∧ (Instr.next (.pointer (some ⟨b, 0, none⟩)) false ty).run P w = .ok (.tuple #[.bool true, e.key, e.val]) (put { w with drawn := n } b (.mapIter (some m) clock ((vs ++ [e]).map (·.born)).toArray clock)) := by
  simp only [Instr.next, getObj, Sem.run_bind, Sem.run, hi, hb, Result.andThen, next_test_false _ es clock clock hold (Nat.le_refl _), Bool.false_eq_true, if_false]
  unfold leftOf
  have hmem : ∀ x ∈ (Array.filter (fun e => !(vs.map (·.born)).toArray.contains e.born) es).toList, x.born < clock := fun x hx => hold x (by simp at hx ⊢; exact hx.1)
  generalize Array.filter (fun e => !(vs.map (·.born)).toArray.contains e.born) es = L at hmem ⊢
  have e1 : L.filter (fun x => decide (x.born < clock)) = L := Array.filter_eq_self.2 (fun x hx => by simpa using hmem x (by simpa using hx))
  have e2 : L.filter (fun x => decide (x.born ≥ clock)) = #[] := by
    rw [Array.filter_eq_empty_iff]
    intro x hx
    have := hmem x (by simpa using hx)
    simp
    omega
  simp only [e1, e2, Array.append_empty]
  by_cases h0 : L.size = 0
  · left
    have : L = #[] := Array.eq_empty_of_size_eq_zero h0
    subst this
    refine ⟨rfl, ?_⟩
    simp [choose, Sem.run, Question.forced]
  right
  have hne : L.isEmpty = false := by simp [Array.isEmpty, h0]
  simp only [hne, Bool.false_eq_true, if_false, Array.empty_append, Array.size_map]
  have hch : ∃ (j n : Nat), j < L.size ∧ w.drawn ≤ n ∧ (choose (Question.mapNext L.size)).run P w = .ok j { w with drawn := n } := by
    by_cases hf : L.size ≤ 1
    · exact ⟨0, w.drawn, by omega, Nat.le_refl _, by simp [choose, Sem.run, Question.forced, hf]⟩
    exact ⟨w.tape w.drawn (Question.mapNext L.size) % L.size, w.drawn + 1, Nat.mod_lt _ (by omega), Nat.le_succ _, by
      simp only [choose, Sem.run, Question.forced, decide_eq_true_eq, hf, if_false, Question.cut]⟩
  obtain ⟨j, n, hj, hdr, hrun⟩ := hch
  refine ⟨L[j], by simp, n, hdr, ?_⟩
  have hset : ∀ o', (setObj b o').run P { w with drawn := n } = .ok () (put { w with drawn := n } b o') := fun o' => run_setObj (w := { w with drawn := n }) hi rfl
  simp only [hrun, Array.getElem?_map, Array.getElem?_eq_getElem hj, Option.map_some, Sem.run_bind, hset, Result.andThen]
  have e3 : (vs.map (·.born)).toArray.push L[j].born = ((vs ++ [L[j]]).map (·.born)).toArray := by simp
  rw [e3]
  rfl
end

section
variable {P : Program} {b : Frame} {cs : List Frame} {fin : Machine → Prop} {n : Nat} {all : Array Oper} {rest : List Oper} {k : List Item} {ρ : Env} {ds : List Deferred} {w w' : World}
  {d : Nat} {ty : TypeId} {pos : String} {af : Array Edge} {g : Option (Nat × Bool)} {T kt et : TypeId} {x y z : Operand} {dk : TypeDesc}
  {κ α : Type} {key : κ → Value} {val : α → Value} {f : κ → Option α} {X : Nat → Prop} {w0 : World} {L : List Rsc} {m bi : Nat} {es : Array MapEntry} {clock : Nat} {vis : List (κ × α)}
/-- A range over a map begins. -/
theorem l_range (key : κ → Value) (val : α → Value) (S : Own X w0 w L) (hg : gOk all n ρ g = true) (hu : ∀ w, (underlying T).run P w = .ok (.map kt et) w) (hx : ev n ρ x = .map (some m)) (hm : w.heap[m]? = some (.map es clock))
    (h : ∀ bi w', Own X w0 w' (L ++ [itr key val bi m es clock []]) → Le w w' → RunL P b cs fin n all rest k (upd ρ d (.pointer (some ⟨bi, 0, none⟩))) ds w') :
    RunL P b cs fin n all (⟨some d, .range T x, ty, pos, af, g⟩ :: rest) k ρ ds w := by
  refine l_x hg (v := .pointer (some ⟨w.heap.size, 0, none⟩)) (w' := w.alloc (.mapIter (some m) clock #[] clock)) ⟨nofun, fun _ _ _ _ => ?_⟩ (h _ _ (S.add (Le.alloc_obj w _) ⟨⟨[], heap_alloc_new w _, .nil⟩, fun b hb => by cases hb; simp⟩) (Le.alloc_obj w _))
  simp [execOp, Instr.range, hx, Sem.run_bind, hu, Result.andThen, MapKept.run_getObj_map hm]
/-- The next entry, or none. -/
theorem l_next (S : Own X w0 w L) (j : Nat) (hj : L[j]? = some (itr key val bi m es clock vis)) (hg : gOk all n ρ g = true) (hK : KeyOk P kt dk key) (hval : ∀ a a', val a = val a' → a = a') (hM : MapOk key val f es clock)
    (hx : ev n ρ x = .pointer (some ⟨bi, 0, none⟩)) (hm : w.heap[m]? = some (.map es clock))
    (h0 : (∀ k a, f k = some a → (k, a) ∈ vis) → RunL P b cs fin n all rest k (upd ρ d (.tuple #[.bool false])) ds w)
    (h1 : ∀ c a w', f c = some a → (∀ p ∈ vis, p.1 ≠ c) → Own X w0 w' (L.set j (itr key val bi m es clock (vis ++ [(c, a)]))) → Keep (· = bi) w w' → RunL P b cs fin n all rest k (upd ρ d (.tuple #[.bool true, key c, val a])) ds w') :
    RunL P b cs fin n all (⟨some d, .next x false, ty, pos, af, g⟩ :: rest) k ρ ds w := by
  obtain ⟨vs, hi, hv⟩ := S.at j hj
  rcases run_next_at (P := P) (ty := ty) hi hm hM.st.1 with ⟨q1, q2⟩ | ⟨e, q1, nn, hdr, q2⟩
  · exact l_x hg ⟨nofun, fun _ _ _ _ => by simp only [execOp, hx, Sem.run_bind, q2, Result.andThen_ok, Sem.run_pure]⟩ (h0 (hv.all hM hK hval q1))
  obtain ⟨c, a, e1, e2, e3, e4, e5⟩ := hv.more hM hK q1
  rw [e1, e2] at q2
  refine l_x hg ⟨nofun, fun _ _ _ _ => by simp only [execOp, hx, Sem.run_bind, q2, Result.andThen_ok, Sem.run_pure]; rfl⟩ (h1 c a _ e3 e4 ?_ ?_)
  · have hk := Keep.put { w with drawn := nn } bi (.mapIter (some m) clock ((vs ++ [e]).map (·.born)).toArray clock)
    exact S.turn (Y := (· = bi)) j hj ⟨hk.os, hk.tape, hk.output, hk.size, hk.block, hdr⟩ (fun _ _ h => h) ⟨_, put_same (w := { w with drawn := nn }) hi, e5⟩ (fun _ h => .inl h)
  have hk := Keep.put { w with drawn := nn } bi (.mapIter (some m) clock ((vs ++ [e]).map (·.born)).toArray clock)
  exact ⟨hk.os, hk.tape, hk.output, hk.size, hk.block, hdr⟩
/-- The entry that came. -/
theorem x_entry {c : κ} {a : α} {E : Operand → Value} (h : (itr key val bi m es clock (vis ++ [(c, a)])).ok w) (hM : MapOk key val f es clock) (hm : w.heap[m]? = some (.map es clock)) (hx : E x = .pointer (some ⟨bi, 0, none⟩)) :
    Go.Vk.X P E (.entry x) ty w (.tuple #[key c, val a]) w := by
  obtain ⟨vs, hi, hv⟩ := h
  have hl : vs ≠ [] := fun e => by have := hv.eq; rw [e] at this; simp at this
  obtain ⟨us, e, rfl⟩ : ∃ us e, vs = us ++ [e] := ⟨vs.dropLast, vs.getLast hl, (List.dropLast_concat_getLast hl).symm⟩
  have heq := hv.eq
  rw [List.map_append, List.map_append] at heq
  obtain ⟨_, h2⟩ := List.append_inj' heq (by simp)
  simp only [List.map_cons, List.map_nil, List.cons.injEq, Prod.mk.injEq, and_true] at h2
  have hin := hv.sub e (by simp)
  have hf : es.find? (·.born == e.born) = some e := by rw [← Array.find?_toList]; exact find_born e es.toList hM.st.2.1 hin
  refine ⟨nofun, fun _ _ _ _ => ?_⟩
  have hb : ((us ++ [e]).map (·.born)).toArray.back? = some e.born := by simp
  simp only [execOp, hx, Instr.entry, getObj, Sem.run_bind, Sem.run, hi, hm, Result.andThen, hb, bne_self_eq_false, Bool.false_eq_true, if_false, hf, h2.1, h2.2, Sem.run_pure]
end

section
variable {P : Program} {b : Frame} {cs : List Frame} {fin : Machine → Prop} {n : Nat} {all : Array Oper} {rest : List Oper} {k : List Item} {ρ : Env} {ds : List Deferred} {w w' : World}
  {d : Nat} {ty : TypeId} {pos : String} {af : Array Edge} {g : Option (Nat × Bool)} {T kt et : TypeId} {x y z : Operand} {dk : TypeDesc}
  {κ α : Type} [DecidableEq κ] {key : κ → Value} {val : α → Value} {f : κ → Option α} {X : Nat → Prop} {w0 : World} {L : List Rsc} {m : Nat} {k0 : κ}
/-- An entry is taken out. -/
theorem l_delete {d' : Option Nat} {t2 : TypeId} (S : Own X w0 w L) (j : Nat) (hj : L[j]? = some (mapr key val m f)) (hg : gOk all n ρ g = true) (hK : KeyOk P kt dk key) (hu : ∀ w, (underlying T).run P w = .ok (.map kt et) w)
    (hx : ev n ρ x = .map (some m)) (hy : ev n ρ y = key k0)
    (h : ∀ w', Own X w0 w' (L.set j (mapr key val m (mdel f k0))) → Keep (· = m) w w' → RunL P b cs fin n all rest k (updO d' (.tuple #[]) ρ) ds w') :
    RunL P b cs fin n all (⟨d', .call ⟨.builtin .delete, #[x, y], #[T, t2]⟩, ty, pos, af, g⟩ :: rest) k ρ ds w := by
  obtain ⟨es, clock, hb, hM⟩ := S.at j hj
  rcases hM.find hK k0 with ⟨h1, h2, _⟩ | ⟨a, i, e, h1, h2, h3, h4, _⟩
  · have hM' : MapOk key val (mdel f k0) es clock := hM.same fun k' => by
      unfold mdel; split
      · next e => rw [e, h1]
      rfl
    refine l_value hg nofun ?_ (h _ (S.setMap j hj hM') (Keep.setObj w _))
    simp [execOp, resolve, invoke, builtin, Builtin.delete_, hx, hy, Sem.run_bind, hu, Result.andThen, MapKept.run_getObj_map hb, MapKept.run_checkKey hK.u (hK.is k0), MapKept.run_findKey hK.u h2, MapKept.run_setObj_map _ hb]
  refine l_value hg nofun ?_ (h _ (S.setMap j hj (hM.erase hK h3 h4)) (Keep.setObj w _))
  simp [execOp, resolve, invoke, builtin, Builtin.delete_, hx, hy, Sem.run_bind, hu, Result.andThen, MapKept.run_getObj_map hb, MapKept.run_checkKey hK.u (hK.is k0), MapKept.run_findKey hK.u h2, MapKept.run_setObj_map _ hb]
end
end Go.Vk

/- The proof engine, part 29: parts of arrays, nil maps, interfaces, read-only resources, resources inside a pack. Generic over the program. -/
namespace Go.Vk
open Go
set_option linter.unusedSectionVars false
set_option linter.unusedVariables false

theorem he_le {w w' : World} {b : Nat} {o : Obj} (h : w.heap[b]? = some o) (hk : Le w w') : w'.heap[b]? = some o :=
  (hk.block b (Array.getElem?_eq_some_iff.1 h).1 id).trans h

/-- A resource that is read. -/
structure RO (r : Rsc) (w : World) : Prop where
  ok : r.ok w
  bd : ∀ b, r.fp b → b < w.heap.size
theorem RO.le {r : Rsc} {w w' : World} (h : RO r w) (hk : Le w w') : RO r w' :=
  ⟨r.st (fun b hb => hk.block b (h.bd b hb) id) h.ok, fun b hb => Nat.lt_of_lt_of_le (h.bd b hb) hk.size⟩
section
variable {X : Nat → Prop} {w0 w w' : World} {L M : List Rsc} {r r' s : Rsc}
theorem Own.ro (S : Own X w0 w L) (k : Nat) (hk : L[k]? = some r) : RO r w := ⟨S.at k hk, fun b hb => (S.bd k r hk b hb).1⟩
theorem RO.mem (h : RO (pack M) w) (hr : r ∈ M) : RO r w := ⟨h.ok.1 r hr, fun b hb => h.bd b ⟨r, hr, hb⟩⟩
theorem RO.at (h : RO (pack M) w) (k : Nat) (hk : M[k]? = some r) : RO r w := h.mem (List.mem_of_getElem? hk)

/-- Of a pack resource i becomes another one. -/
theorem Own.turnIn {Y : Nat → Prop} (h : Own X w0 w L) (k : Nat) (hk : L[k]? = some (Vk.pack M)) (i : Nat) (hi : M[i]? = some r) (hy : Keep Y w w') (hY : ∀ b, b < w.heap.size → Y b → r.fp b) (hn : r'.ok w')
    (hfp : ∀ b, r'.fp b → r.fp b ∨ (w.heap.size ≤ b ∧ b < w'.heap.size)) : Own X w0 w' (L.set k (Vk.pack (M.set i r'))) := by
  have hP := h.at k hk
  have hb := fun b hb => (h.bd k _ hk b hb).1
  have hrm : r ∈ M := List.mem_of_getElem? hi
  have hii : i < M.length := (List.getElem?_eq_some_iff.1 hi).1
  have hset : ∀ {j s}, (M.set i r')[j]? = some s → (j = i ∧ s = r') ∨ (j ≠ i ∧ M[j]? = some s) := by
    intro j s hs
    by_cases e : j = i
    · subst e; left
      rw [List.getElem?_set_self hii] at hs
      exact ⟨rfl, (Option.some.inj hs).symm⟩
    right; rw [List.getElem?_set_ne (Ne.symm e)] at hs; exact ⟨e, hs⟩
  refine h.turn k hk hy (fun b hb' hyb => ⟨r, hrm, hY b hb' hyb⟩) ⟨fun s hs => ?_, fun a c s t hs ht hne b hb1 hb2 => ?_⟩ fun b hb1 => ?_
  · obtain ⟨j, hj⟩ := List.getElem?_of_mem hs
    rcases hset hj with ⟨_, rfl⟩ | ⟨e, hj⟩
    · exact hn
    refine s.st (fun b hbs => hy.block b (hb b ⟨s, List.mem_of_getElem? hj, hbs⟩) fun hyb => ?_) (hP.1 s (List.mem_of_getElem? hj))
    exact hP.2 j i s r hj hi e b hbs (hY b (hb b ⟨s, List.mem_of_getElem? hj, hbs⟩) hyb)
  · rcases hset hs with ⟨e1, q1⟩ | ⟨e1, hs⟩
    · rcases hset ht with ⟨e2, _⟩ | ⟨e2, ht⟩
      · omega
      rw [q1] at hb1
      rcases hfp b hb1 with g | ⟨g, _⟩
      · exact hP.2 i c r t hi ht (by omega) b g hb2
      have := hb b ⟨t, List.mem_of_getElem? ht, hb2⟩; omega
    rcases hset ht with ⟨e2, q2⟩ | ⟨e2, ht⟩
    · rw [q2] at hb2
      rcases hfp b hb2 with g | ⟨g, _⟩
      · exact hP.2 a i s r hs hi e1 b hb1 g
      have := hb b ⟨s, List.mem_of_getElem? hs, hb1⟩; omega
    exact hP.2 a c s t hs ht hne b hb1 hb2
  obtain ⟨s, hs, hb1⟩ := hb1
  obtain ⟨j, hj⟩ := List.getElem?_of_mem hs
  rcases hset hj with ⟨_, rfl⟩ | ⟨_, hj⟩
  · exact (hfp b hb1).imp (fun g => ⟨r, hrm, g⟩) id
  exact .inl ⟨s, List.mem_of_getElem? hj, hb1⟩
/-- A new resource joins a pack. -/
theorem Own.into {A : List Rsc} (S : Own X w0 w (A ++ [Vk.pack M, r])) : Own X w0 w (A ++ [Vk.pack (M ++ [r])]) := by
  have hr : (A ++ [Vk.pack M, r])[A.length + 1]? = some r := by rw [List.getElem?_append_right (by omega)]; simp
  have hp : (A ++ [Vk.pack M, r])[A.length]? = some (Vk.pack M) := by simp
  have hA : ∀ {k : Nat} {s : Rsc}, k < A.length → A[k]? = some s → (A ++ [Vk.pack M, r])[k]? = some s := fun hk h => by rw [List.getElem?_append_left hk]; exact h
  have hP := S.at _ hp
  have hR := S.at _ hr
  have hmem : ∀ s ∈ M ++ [r], ∀ b, s.fp b → (Vk.pack M).fp b ∨ r.fp b := fun s hs b hb => by
    rcases List.mem_append.1 hs with h | h
    · exact .inl ⟨s, h, hb⟩
    simp at h; subst h; exact .inr hb
  refine ⟨S.keep, fun k s hs => ?_, fun k s hs b hb => ?_, fun j k s t hs ht hne b hb1 hb2 => ?_⟩
  · rcases getElem?_snoc hs with ⟨hk, hs⟩ | ⟨_, rfl⟩
    · exact S.ok k s (hA hk hs)
    refine ⟨fun s hs => ?_, fun j k s t hs ht hne b hb1 hb2 => ?_⟩
    · rcases List.mem_append.1 hs with h | h
      · exact hP.1 s h
      simp at h; subst h; exact hR
    rcases getElem?_snoc hs with ⟨_, hs⟩ | ⟨e1, rfl⟩
    · rcases getElem?_snoc ht with ⟨_, ht⟩ | ⟨e2, rfl⟩
      · exact hP.2 j k s t hs ht hne b hb1 hb2
      exact S.dj _ _ _ _ hp hr (by omega) b ⟨s, List.mem_of_getElem? hs, hb1⟩ hb2
    rcases getElem?_snoc ht with ⟨_, ht⟩ | ⟨e2, rfl⟩
    · exact S.dj _ _ _ _ hp hr (by omega) b ⟨t, List.mem_of_getElem? ht, hb2⟩ hb1
    omega
  · rcases getElem?_snoc hs with ⟨hk, hs⟩ | ⟨_, rfl⟩
    · exact S.bd k s (hA hk hs) b hb
    obtain ⟨s, hs, hb⟩ := hb
    rcases hmem s hs b hb with h | h
    · exact S.bd _ _ hp b h
    exact S.bd _ _ hr b h
  rcases getElem?_snoc hs with ⟨hj, hs⟩ | ⟨e1, rfl⟩
  · rcases getElem?_snoc ht with ⟨hk, ht⟩ | ⟨e2, rfl⟩
    · exact S.dj j k s t (hA hj hs) (hA hk ht) hne b hb1 hb2
    obtain ⟨u, hu, hb2⟩ := hb2
    rcases hmem u hu b hb2 with h | h
    · exact S.dj _ _ _ _ (hA hj hs) hp (by omega) b hb1 h
    exact S.dj _ _ _ _ (hA hj hs) hr (by omega) b hb1 h
  rcases getElem?_snoc ht with ⟨hk, ht⟩ | ⟨e2, rfl⟩
  · obtain ⟨u, hu, hb1⟩ := hb1
    rcases hmem u hu b hb1 with h | h
    · exact S.dj _ _ _ _ (hA hk ht) hp (by omega) b hb2 h
    exact S.dj _ _ _ _ (hA hk ht) hr (by omega) b hb2 h
  omega
end

/-! ### operations -/
section
variable {P : Program} {E : Operand → Value} {w : World} {ty T kt et : TypeId} {x y : Operand} {v z : Value}
/-- A part of an array's value. -/
theorem x_part {k : IntKind} {i : Int} {n : Nat} {e : TypeId} {cs : Array Value} (hx : E x = .agg cs) (hy : E y = .int k i) (hu : ∀ w, (underlying T).run P w = .ok (.array n e) w) (hs : ∀ w, (sizeOf e).run P w = .ok 1 w) (ha : ∀ w, (isAgg e).run P w = .ok false w)
    (hb : 0 ≤ i ∧ i < n) (hv : cs[i.toNat]? = some v) : X P E (.index T x y) ty w v w := by
  refine ⟨nofun, fun _ _ _ _ => ?_⟩
  simp [execOp, hx, hy, Instr.index, asIntOf, hu, hs, hb.1, hb.2, part, ha, hv, go_sem]
theorem run_equal_map {o : Option Nat} (hu : ∀ w, (underlying T).run P w = .ok (.map kt et) w) : (Op.equal T (.map o) (.map none)).run P w = .ok o.isNone w := by
  unfold Op.equal
  obtain ⟨m, hm⟩ : ∃ m, Op.maxDepth = m + 1 := ⟨9999, rfl⟩
  rw [hm]
  simp only [Op.equalIn, Sem.run_bind, hu, Result.andThen_ok]
  cases o <;> rfl
/-- Is a map nil? -/
theorem x_nilmap {o : Option Nat} {t : Bool} {T' : TypeId} (hu : ∀ w, (underlying T).run P w = .ok (.map kt et) w) (hx : E x = .map o) (hy : E y = .map none) (ht : o.isNone = t) : Go.Vk.X P E (.binOp .eql T x y T') ty w (.bool t) w :=
  ⟨nofun, fun _ _ _ _ => by
    subst ht
    have h := run_equal_map (P := P) (w := w) (o := o) hu
    simp only [execOp, hx, hy, Sem.run_bind]
    rw [show (eqGuard .eql T x y (.map o) (.map none)).run P w = .ok () w from by cases o <;> rfl]
    simp only [Result.andThen_ok, binOp, Sem.run_bind, h, Sem.run_pure]⟩
def isNilI : Value → Bool
  | .nilIface => true
  | _ => false
theorem run_equal_iface {ms : Array (String × TypeId)} (hu : ∀ w, (underlying T).run P w = .ok (.interface ms) w) (hv : v = .nilIface ∨ ∃ t u, v = .iface t u) : (Op.equal T v .nilIface).run P w = .ok (isNilI v) w := by
  unfold Op.equal
  obtain ⟨m, hm⟩ : ∃ m, Op.maxDepth = m + 1 := ⟨9999, rfl⟩
  rw [hm]
  rcases hv with rfl | ⟨t, u, rfl⟩ <;> simp only [Op.equalIn, Sem.run_bind, hu, Result.andThen_ok] <;> rfl
/-- An interface's value against nil. -/
theorem x_niliface {t : Bool} {ms : Array (String × TypeId)} {T' : TypeId} (hu : ∀ w, (underlying T).run P w = .ok (.interface ms) w) (hx : E x = v) (hy : E (.const .nilIface) = .nilIface) (hv : v = .nilIface ∨ ∃ t u, v = .iface t u) (ht : (isNilI v) = t) :
    Go.Vk.X P E (.binOp .eql T x (.const .nilIface) T') ty w (.bool t) w :=
  ⟨nofun, fun _ _ _ _ => by
    subst ht
    have h := run_equal_iface (P := P) (w := w) hu hv
    simp only [execOp, hx, hy, Sem.run_bind]
    rw [show (eqGuard .eql T x (.const .nilIface) v .nilIface).run P w = .ok () w from by rcases hv with rfl | ⟨t, u, rfl⟩ <;> simp [eqGuard, go_sem]]
    have hb : binOp .eql T v .nilIface = (do pure (.bool (← Op.equal T v .nilIface))) := by rcases hv with rfl | ⟨t, u, rfl⟩ <;> rfl
    simp only [Result.andThen_ok, hb, Sem.run_bind, h, Sem.run_pure]⟩
theorem x_max {k : IntKind} {a c : Int} {ts : Array TypeId} (hx : E x = .int k a) (hy : E y = .int k c) : Go.Vk.X P E (.call ⟨.builtin .max, #[x, y], ts⟩) ty w (.int k (max a c)) w :=
  ⟨nofun, fun _ _ _ _ => by
    have h : max a c = if a < c then c else a := by simp only [Int.max_def]; split <;> split <;> omega
    simp only [execOp, resolve, Sem.run_bind, Sem.run_pure, Result.andThen_ok, invoke, builtin, List.map_toArray, List.map_cons, List.map_nil, hx, hy, Builtin.max_, List.foldlM_cons, List.foldlM_nil]
    simp [Builtin.max2, h, go_sem]⟩
theorem x_mkiface {d : TypeDesc} (hx : E x = v) (hu : ∀ w, (underlying T).run P w = .ok d w) (hd : (match d with | .interface _ => false | _ => true) = true) : Go.Vk.X P E (.makeInterface T x) ty w (.iface T v) w :=
  ⟨nofun, fun _ _ _ _ => by
    cases d <;> first | (simp at hd; done) | simp [execOp, hx, Instr.makeInterface, hu, go_sem]⟩
/-- The value is of the asserted type. -/
theorem x_assert {A : TypeId} {d : TypeDesc} (hx : E x = .iface A v) (hu : ∀ w, (underlying A).run P w = .ok d w) (hd : (match d with | .interface _ => false | _ => true) = true) : Go.Vk.X P E (.typeAssert x T A true) ty w (.tuple #[v, .bool true]) w :=
  ⟨nofun, fun _ _ _ _ => by
    cases d <;> first | (simp at hd; done) | simp [execOp, hx, Instr.typeAssert, hu, go_sem]⟩
end

section
variable {P : Program} {b : Frame} {cs : List Frame} {fin : Machine → Prop} {n : Nat} {all : Array Oper} {rest : List Oper} {k : List Item} {ρ : Env} {ds : List Deferred} {w w' : World}
  {d : Nat} {ty : TypeId} {pos : String} {af : Array Edge} {g : Option (Nat × Bool)} {T kt et : TypeId} {x y z : Operand} {dk : TypeDesc}
theorem run_range0 {E : Operand → Value} (hu : ∀ w, (underlying T).run P w = .ok (.map kt et) w) (hx : E x = .map none) :
    X P E (.range T x) ty w (.pointer (some ⟨w.heap.size, 0, none⟩)) (w.alloc (.mapIter none 0 #[] 0)) :=
  ⟨nofun, fun _ _ _ _ => by simp [execOp, Instr.range, hx, Sem.run_bind, hu, Result.andThen]⟩
/-- A range over a nil map. -/
theorem l_range0 {X : Nat → Prop} {w0 : World} {L : List Rsc} (S : Own X w0 w L) (hg : gOk all n ρ g = true) (hu : ∀ w, (underlying T).run P w = .ok (.map kt et) w) (hx : ev n ρ x = .map none)
    (h : ∀ bi w', Own X w0 w' (L ++ [Vk.obj bi (.mapIter none 0 #[] 0)]) → Le w w' → RunL P b cs fin n all rest k (upd ρ d (.pointer (some ⟨bi, 0, none⟩))) ds w') :
    RunL P b cs fin n all (⟨some d, .range T x, ty, pos, af, g⟩ :: rest) k ρ ds w :=
  l_x hg (run_range0 hu hx) (h _ _ (S.allocObj _) (Le.alloc_obj w _))
theorem x_next0 {E : Operand → Value} {bi : Nat} (hx : E x = .pointer (some ⟨bi, 0, none⟩)) (hi : w.heap[bi]? = some (.mapIter none 0 #[] 0)) : X P E (.next x false) ty w (.tuple #[.bool false]) w :=
  ⟨nofun, fun _ _ _ _ => by simp only [execOp, hx, Instr.next, getObj, Sem.run_bind, Sem.run, hi, Result.andThen]; rfl⟩
/-- The whole of a slice's head, with no more behind it. -/
theorem x_headm {α : Type} {E : Elt α} {l : List α} {ev : Operand → Value} {v : Value} {q : Int} {z z' : Operand} (hr : Rd E w v l) (hx : ev x = v) (hz : ev z = .int .i64 q) (hz' : ev z' = .int .i64 q) (hu : ∀ w, (underlying T).run P w = .ok (.slice E.T) w) (hs : ∀ w, (sizeOf E.T).run P w = .ok E.sz w) (hq : 0 ≤ q ∧ q ≤ l.length) :
    ∃ v', Rd E w v' (l.take q.toNat) ∧ ∀ w1, X P ev (.slice T x none (some z) (some z')) ty w1 v' w1 := by
  obtain ⟨a, cap, rfl, hc, hrow⟩ := hr
  have hlen : (l.take q.toNat).length = q.toNat := by rw [List.length_take]; omega
  refine ⟨.slice (if q.toNat = 0 then a else a.map (·.add (0 * E.sz))) q.toNat q.toNat, ⟨_, _, by rw [hlen], by rw [hlen]; exact Nat.le_refl _, fun i e hi => ?_⟩, fun w1 => ⟨nofun, fun _ _ _ _ => ?_⟩⟩
  · rw [List.getElem?_take] at hi
    split at hi
    · obtain ⟨b', o', rfl, hr⟩ := hrow i e hi
      refine ⟨b', o', ?_, hr⟩
      split
      · rfl
      simp [addr_add]
    cases hi
  have hB : ∀ (u : Value) (m : Int) (y : Nat) (cd : BoundsCode) (w : World), u = .int .i64 m → 0 ≤ m ∧ m ≤ y → (Instr.sliceBound u y cd).run P w = .ok m.toNat w := by
    intro u m y cd w hz hm
    subst hz
    simp only [Instr.sliceBound, asIntOf, Sem.run_bind, Sem.run_pure, Result.andThen_ok]
    rw [if_pos hm]
    rfl
  have hsb : ∀ w, (Instr.sliceBounds true l.length cap none (some (ev z)) (some (ev z'))).run P w = .ok (0, q.toNat, q.toNat) w := by
    intro w
    unfold Instr.sliceBounds
    simp only [Sem.run_bind, Sem.run_pure, Result.andThen_ok, if_true, hB (ev z') q cap .slice3Acap w hz' (by omega), hB (ev z) q q.toNat .slice3B w hz (by omega)]
  simp only [execOp, Instr.sliceAt, Option.map_none, Option.map_some, hx, Sem.run_bind, hu, Result.andThen_ok, Instr.slice, hsb, hs, Sem.run_pure, Nat.sub_zero]
end

/-! ### what has come of a map -/
structure Vis {κ α : Type} (f : κ → Option α) (vis : List (κ × α)) : Prop where
  nd : (vis.map (·.1)).Nodup
  of : ∀ p ∈ vis, f p.1 = some p.2
section
variable {κ α : Type} {f : κ → Option α} {vis M : List (κ × α)} {c : κ} {a : α}
theorem Vis.nil : Vis f ([] : List (κ × α)) := ⟨by simp, fun _ h => by cases h⟩
theorem Vis.step (h : Vis f vis) (hf : f c = some a) (hn : ∀ p ∈ vis, p.1 ≠ c) : Vis f (vis ++ [(c, a)]) := by
  refine ⟨?_, fun p hp => ?_⟩
  · rw [List.map_append]
    refine List.nodup_append.2 ⟨h.nd, by simp, fun x hx y hy => ?_⟩
    obtain ⟨p, hp, rfl⟩ := List.mem_map.1 hx
    simp at hy; subst hy
    exact hn p hp
  rcases List.mem_append.1 hp with hp | hp
  · exact h.of p hp
  simp at hp; subst hp; exact hf
theorem nodup_of_keys {l : List (κ × α)} (h : (l.map (·.1)).Nodup) : l.Nodup := by
  induction l with
  | nil => simp
  | cons p l ih =>
    rw [List.map_cons, List.nodup_cons] at h
    exact List.nodup_cons.2 ⟨fun hm => h.1 (List.mem_map.2 ⟨p, hm, rfl⟩), ih h.2⟩
theorem perm_of_mem [BEq α] [LawfulBEq α] : ∀ {l m : List α}, l.Nodup → m.Nodup → (∀ x, x ∈ l ↔ x ∈ m) → l.Perm m := by
  intro l
  induction l with
  | nil => intro m _ _ h; cases m with
    | nil => exact .nil
    | cons y m => exact absurd ((h y).2 (List.mem_cons_self ..)) (by simp)
  | cons x l ih =>
    intro m hl hm h
    rw [List.nodup_cons] at hl
    have hx : x ∈ m := (h x).1 (List.mem_cons_self ..)
    have hp := List.perm_cons_erase hx
    refine (List.Perm.cons x (ih hl.2 (hm.erase x) fun y => ?_)).trans hp.symm
    constructor
    · intro hy
      have hne : y ≠ x := fun e => hl.1 (e ▸ hy)
      exact (List.mem_erase_of_ne hne).2 ((h y).1 (List.mem_cons_of_mem _ hy))
    intro hy
    have hne : y ≠ x := fun e => by subst e; exact (hm.not_mem_erase) hy
    rcases List.mem_cons.1 ((h y).2 ((List.mem_erase_of_ne hne).1 hy)) with e | e
    · exact absurd e hne
    exact e
/-- Two lists of all entries. -/
theorem Vis.perm [DecidableEq κ] [DecidableEq α] (h : Vis f vis) (hall : ∀ k a, f k = some a → (k, a) ∈ vis) (h' : Vis f M) (hall' : ∀ k a, f k = some a → (k, a) ∈ M) : vis.Perm M :=
  perm_of_mem (nodup_of_keys h.nd) (nodup_of_keys h'.nd) fun p => ⟨fun hp => hall' _ _ (h.of p hp), fun hp => hall _ _ (h'.of p hp)⟩
theorem nodup_le {α : Type} [BEq α] [LawfulBEq α] : ∀ {l m : List α}, l.Nodup → (∀ x ∈ l, x ∈ m) → l.length ≤ m.length := by
  intro l
  induction l with
  | nil => intro m _ _; simp
  | cons x l ih =>
    intro m hl h
    rw [List.nodup_cons] at hl
    have hx : x ∈ m := h x (List.mem_cons_self ..)
    have := ih (m := m.erase x) hl.2 fun y hy => (List.mem_erase_of_ne (fun (e : y = x) => hl.1 (by rw [← e]; exact hy))).2 (h y (List.mem_cons_of_mem _ hy))
    have h2 := List.length_erase_of_mem hx
    have h3 := List.length_pos_of_mem hx
    simp only [List.length_cons]
    omega
theorem itr_len {key : κ → Value} {val : α → Value} {b m : Nat} {es : Array MapEntry} {clock : Nat} {w : World} (h : (itr key val b m es clock vis).ok w) : vis.length ≤ es.size := by
  obtain ⟨vs, _, hv⟩ := h
  have e : vs.length = vis.length := by have := congrArg List.length hv.eq; simpa using this
  have h1 : (vs.map (·.born)).length ≤ (es.toList.map (·.born)).length := nodup_le hv.nd fun x hx => by
    obtain ⟨y, hy, rfl⟩ := List.mem_map.1 hx
    exact List.mem_map.2 ⟨y, hv.sub y hy, rfl⟩
  simp at h1
  omega
end
section
variable {P : Program} {b : Frame} {cs : List Frame} {fin : Machine → Prop} {n : Nat} {all : Array Oper} {rest : List Oper} {k : List Item} {ρ : Env} {ds : List Deferred} {w w' : World}
  {d' : Option Nat} {ty : TypeId} {pos : String} {af : Array Edge} {g : Option (Nat × Bool)} {v : Value}
/-- A call that may panic: by its contract. -/
theorem l_callP {F : Operand} {as : List Operand} {ts : Array TypeId} {f : FuncId} (first cap vals : List Value) {R Q : Value → World → Prop} (hg : gOk all n ρ g = true)
    (hF : ev n ρ F = .func (.func f) first.toArray cap.toArray) (he : ∀ args w, (callFunc f args).run P w = .ok (.enter f args) w) (ha : first ++ as.map (ev n ρ) ++ cap = vals)
    (hc : Cp P f vals.toArray w R Q) (h : ∀ v w', R v w' → RunL P b cs fin n all rest k (updO d' v ρ) ds w') (hp : ∀ v w' k', Q v w' → LeaveU P b cs fin n k' ρ ds (.panicking [pentry v]) w') :
    RunL P b cs fin n all (⟨d', .call ⟨.value F, as.toArray, ts⟩, ty, pos, af, g⟩ :: rest) k ρ ds w :=
  l_enterP hg nofun (run_call hF he ha) hc h hp
end
section
variable {P : Program} {b : Frame} {cs : List Frame} {fin : Machine → Prop} {n : Nat} {k : List Item} {ρ : Env} {ds : List Deferred} {w : World} {X : Nat → Prop} {w0 : World} {L : List Rsc}
/-- Behind this point only the named slots are known, and what is owned is as it was: what follows is proved once. -/
theorem r_cutS (S : Own X w0 w L) (slots : List (Nat × Value)) (p : Prop) (hK : ∀ ρ w', p → Own X w0 w' L → Run P b cs fin n k (upds ρ slots) ds w') {x : Item}
    (h : (∀ ρ w', Agree ρ slots → p → Own X w0 w' L → Run P b cs fin n k ρ ds w') → Run P b cs fin n (x :: k) ρ ds w) : Run P b cs fin n (x :: k) ρ ds w :=
  h fun ρ w' ha hp hS => by have := hK ρ w' hp hS; rwa [upds_agree ha] at this
end
section
variable {P : Program} {b : Frame} {cs : List Frame} {fin : Machine → Prop} {n : Nat} {k : List Item} {ρ : Env} {ds : List Deferred} {w : World} {ops : Array Oper} {m : Nat} {Y : Nat → Prop} {listed listed' : Array Bool}
  {d : Nat} {ty : TypeId} {pos : String} {af : Array Edge} {g : Option (Nat × Bool)} {v : Value} {T : TypeId} {x z z' : Operand} {α : Type} {E : Elt α} {l : List α} {q : Int}
theorem e_headm (i : Nat) (hok : drawOk ops m = true) (ho : ops[i]? = some ⟨some d, .slice T x none (some z) (some z'), ty, pos, af, g⟩) (him : Nat.blt i m = true) (hr : rdy ops listed i = true)
    (hl : listed.setIfInBounds i true = listed') (hg : gOk ops n ρ g = true) (hv : Rd E w v l) (hx : ev n ρ x = v) (hz : ev n ρ z = .int .i64 q) (hz' : ev n ρ z' = .int .i64 q)
    (hu : ∀ w, (underlying T).run P w = .ok (.slice E.T) w) (hs : ∀ w, (sizeOf E.T).run P w = .ok E.sz w) (hq : 0 ≤ q ∧ q ≤ l.length)
    (h : ∀ v', Rd E w v' (l.take q.toNat) → RE P b cs fin n ops m (Keep Y) k ds listed' (upd ρ d v') w) : RE P b cs fin n ops m (Keep Y) k ds listed ρ w := by
  obtain ⟨v', h1, h2⟩ := x_headm (P := P) (ty := ty) hv hx hz hz' hu hs hq
  exact e_exact i _ hok ho him hr hl (ex_x hg fun w1 _ => h2 w1) (h v' h1)
end
section
variable {P : Program} {b : Frame} {cs : List Frame} {fin : Machine → Prop} {n : Nat} {all : Array Oper} {rest : List Oper} {k : List Item} {ρ : Env} {ds : List Deferred} {w : World}
  {d : Nat} {ty : TypeId} {pos : String} {af : Array Edge} {g : Option (Nat × Bool)} {v : Value} {T T' e : TypeId} {x y : Operand} {α : Type} {E : Elt α} {l : List α}
theorem run_equal_slice {p : Option Addr} {m c : Nat} (hu : ∀ w, (underlying T).run P w = .ok (.slice e) w) : (Op.equal T (.slice p m c) (.slice none 0 0)).run P w = .ok p.isNone w := by
  unfold Op.equal
  obtain ⟨q, hq⟩ : ∃ q, Op.maxDepth = q + 1 := ⟨9999, rfl⟩
  rw [hq]
  simp only [Op.equalIn, Sem.run_bind, hu, Result.andThen_ok]
  cases p <;> rfl
/-- Is a slice nil? Then it has nothing. -/
theorem l_nilsl (hr : Rd E w v l) (hg : gOk all n ρ g = true) (hx : ev n ρ x = v) (hy : ev n ρ y = .slice none 0 0) (hu : ∀ w, (underlying T).run P w = .ok (.slice e) w)
    (h : ∀ t : Bool, (t = true → l = []) → RunL P b cs fin n all rest k (upd ρ d (.bool t)) ds w) : RunL P b cs fin n all (⟨some d, .binOp .eql T x y T', ty, pos, af, g⟩ :: rest) k ρ ds w := by
  obtain ⟨p, cap, rfl, hc, hrow⟩ := hr
  refine l_x hg (v := .bool p.isNone) ⟨nofun, fun _ _ _ _ => ?_⟩ (h _ fun ht => ?_)
  · have he := run_equal_slice (P := P) (w := w) (p := p) (m := l.length) (c := cap) hu
    simp only [execOp, hx, hy, Sem.run_bind]
    rw [show (eqGuard .eql T x y (.slice p l.length cap) (.slice none 0 0)).run P w = .ok () w from rfl]
    simp only [Result.andThen_ok, binOp, Sem.run_bind, he, Sem.run_pure]
  cases l with
  | nil => rfl
  | cons a l =>
    obtain ⟨b', o', hp, _⟩ := hrow 0 a rfl
    rw [hp] at ht; cases ht
end
end Go.Vk

/- Deeds in memory: how they lie there; what has been done, as a resource. Generic over the program. -/
namespace Go.Vk.Deed
open Go Go.Vk
set_option linter.unusedSectionVars false

/-- A deed as it lies: its numbers and the headers of its lists. -/
abbrev Rw := D × Hd × Hd
abbrev i64 (x : Int) : Value := .int .i64 x
def encD (a : Rw) : List Value := [i64 a.1.id, i64 a.1.day, i64 a.1.known, .int .u8 a.1.kind, i64 a.1.frm, i64 a.1.to, i64 a.1.parts, i64 a.1.stop, i64 a.1.of, hv a.2.1, hv a.2.2]
def deedE (T : TypeId) : Elt Rw where
  T := T
  sz := 11
  enc := encD
  zero := [i64 0, i64 0, i64 0, .int .u8 0, i64 0, i64 0, i64 0, i64 0, i64 0, .slice none 0 0, .slice none 0 0]
  len _ := rfl
  zlen := rfl
  one a x h := by simp [encD] at h; rcases h with h | h | h | h | h | h | h | h | h | h | h <;> subst h <;> rfl
  pos := by decide
def encLs (x : Ls) : List Value := [i64 x.deed, i64 x.frm, i64 x.to, i64 x.parts, i64 x.stop, i64 x.day]
def lsE (T : TypeId) : Elt Ls where
  T := T
  sz := 6
  enc := encLs
  zero := [i64 0, i64 0, i64 0, i64 0, i64 0, i64 0]
  len _ := rfl
  zlen := rfl
  one a x h := by simp [encLs] at h; rcases h with h | h | h | h | h | h <;> subst h <;> rfl
  pos := by decide
def encLz (x : Lz) : List Value := [i64 x.deed, i64 x.frm, i64 x.to, i64 x.parts, i64 x.stop]
def lzE (T : TypeId) : Elt Lz where
  T := T
  sz := 5
  enc := encLz
  zero := [i64 0, i64 0, i64 0, i64 0, i64 0]
  len _ := rfl
  zlen := rfl
  one a x h := by simp [encLz] at h; rcases h with h | h | h | h | h <;> subst h <;> rfl
  pos := by decide
def encPl (x : Pl) : List Value := [i64 x.deed, i64 x.frm, i64 x.to, i64 x.parts]
def plE (T : TypeId) : Elt Pl where
  T := T
  sz := 4
  enc := encPl
  zero := [i64 0, i64 0, i64 0, i64 0]
  len _ := rfl
  zlen := rfl
  one a x h := by simp [encPl] at h; rcases h with h | h | h | h <;> subst h <;> rfl
  pos := by decide
def encAc (x : Acc) : List Value := [i64 x.owner, i64 x.holds, i64 x.pledged, i64 x.out, i64 x.inn]
def acE (T : TypeId) : Elt Acc where
  T := T
  sz := 5
  enc := encAc
  zero := [i64 0, i64 0, i64 0, i64 0, i64 0]
  len _ := rfl
  zlen := rfl
  one a x h := by simp [encAc] at h; rcases h with h | h | h | h | h <;> subst h <;> rfl
  pos := by decide

/-- A deed's lists read as they should. -/
structure SubR (TI : TypeId) (w : World) (a : Rw) : Prop where
  h : Rd (intE TI) w (hv a.2.1) a.1.heirs
  s : Rd (intE TI) w (hv a.2.2) a.1.shares
  hm : a.1.heirs.length ≤ 9223372036854775807
  sm : a.1.shares.length ≤ 9223372036854775807
/-- A slice reads as these deeds. -/
structure DsR (TD TI : TypeId) (w : World) (v : Value) (rs : List Rw) : Prop where
  rd : Rd (deedE TD) w v rs
  sub : ∀ a ∈ rs, SubR TI w a
  lm : rs.length ≤ 9223372036854775807
def dl (rs : List Rw) : List D := rs.map (·.1)
section
variable {TD TI : TypeId} {w w' : World} {v : Value} {rs : List Rw} {a : Rw}
theorem SubR.le (h : SubR TI w a) (hk : Le w w') : SubR TI w' a := ⟨h.1.le hk, h.2.le hk, h.3, h.4⟩
theorem DsR.le (h : DsR TD TI w v rs) (hk : Le w w') : DsR TD TI w' v rs := ⟨h.rd.le hk, fun a ha => (h.sub a ha).le hk, h.lm⟩
theorem dl_len : (dl rs).length = rs.length := by simp [dl]
theorem dl_get {i : Nat} (h : rs[i]? = some a) : (dl rs)[i]? = some a.1 := by simp [dl, h]
theorem dl_take {i : Nat} : dl (rs.take i) = (dl rs).take i := by simp [dl, List.map_take]
end

theorem DsR.mem {TD TI : TypeId} {w w' : World} {v v' : Value} {rs rs' : List Rw} (h : DsR TD TI w v rs) (hk : Le w w') (h2 : Rd (deedE TD) w' v' rs') (hm : ∀ a ∈ rs', a ∈ rs) (hl : rs'.length ≤ 9223372036854775807) : DsR TD TI w' v' rs' :=
  ⟨h2, fun a ha => (h.sub a (hm a ha)).le hk, hl⟩
/-- The lists of deeds, in memory of one's own. -/
def dnest (TI : TypeId) (rs : List Rw) : List Rsc := rs.flatMap fun a => [vec (intE TI) (hv a.2.1) a.1.heirs, vec (intE TI) (hv a.2.2) a.1.shares]
/-! ### what has been done, in memory -/
def plV (p : Pl) : Value := .agg (encPl p).toArray
def mV (m : Nat) : Value := .map (some m)
/-- The names of a roll's memory: its three maps, its two slices, of each owner the map of what they hold. -/
structure Nm where
  h : Nat
  p : Nat
  s : Nat
  lv : Value
  iv : Value
  ms : List (Int × Nat)
/-- The map of an owner. -/
def Nm.inn (n : Nm) (o : Int) : Option Nat := (n.ms.find? fun q => decide (q.1 = o)).map (·.2)
structure Tys where
  roll : TypeId
  lease : TypeId
  int : TypeId
/-- The cells of a roll. -/
def rollC (n : Nm) : List Value := [.map (some n.h), n.lv, .map (some n.p), n.iv, .map (some n.s)]
abbrev innR (n : Nm) (f : Int → Int → Option Int) : List Rsc := n.ms.map fun q => mapr kInt kInt q.2 (f q.1)
abbrev rollL (t : Tys) (b : Nat) (n : Nm) (hs : Int → Option Int) (ls : List Ls) (pf : Int → Option Pl) (is : List Int) (sf : Int → Int → Option Int) : List Rsc :=
  [blk b (rollC n) t.roll, mapr kInt kInt n.h hs, vec (lsE t.lease) n.lv ls, mapr kInt plV n.p pf, vec (intE t.int) n.iv is, mapr kInt mV n.s n.inn, pack (innR n sf)]
/-- What the maps say. -/
structure RollOk (n : Nm) (s : St) (hs : Int → Option Int) (pf : Int → Option Pl) (sf : Int → Int → Option Int) : Prop where
  h : ∀ o, (hs o).getD 0 = s.holds o
  own : ∀ o a, hs o = some a → 1 ≤ o ∧ o ≤ 40
  p : ∀ k, pf k = plOf s k
  s : ∀ o i, (sf o i).getD 0 = s.src o i
  ids : ∀ o i a, sf o i = some a → 1 ≤ i ∧ i ≤ 400
  none : ∀ o, n.inn o = none → ∀ i, sf o i = none
  nd : (n.ms.map (·.1)).Nodup
def rollF (t : Tys) (b : Nat) (n : Nm) : Nat → Prop := (pack (rollL t b n mnil [] mnil [] fun _ => mnil)).fp
theorem roll_fp {t : Tys} {b : Nat} {n : Nm} {hs : Int → Option Int} {ls : List Ls} {pf : Int → Option Pl} {is : List Int} {sf : Int → Int → Option Int} (c : Nat) : (pack (rollL t b n hs ls pf is sf)).fp c ↔ rollF t b n c := by
  simp only [rollF, pack, rollL, innR, List.mem_cons, List.not_mem_nil, or_false, exists_eq_or_imp, exists_eq_left, List.mem_map, blk, mapr, vec]
  constructor <;> rintro (h | h | h | h | h | h | ⟨r, ⟨q, hq, rfl⟩, h⟩)
  all_goals first
    | exact .inl h
    | exact .inr (.inl h)
    | exact .inr (.inr (.inl h))
    | exact .inr (.inr (.inr (.inl h)))
    | exact .inr (.inr (.inr (.inr (.inl h))))
    | exact .inr (.inr (.inr (.inr (.inr (.inl h)))))
    | exact .inr (.inr (.inr (.inr (.inr (.inr ⟨_, ⟨q, hq, rfl⟩, h⟩)))))
/-- What has been done. -/
def rollS (t : Tys) (b : Nat) (n : Nm) (s : St) : Rsc where
  fp := rollF t b n
  ok := fun w => ∃ hs pf sf, RollOk n s hs pf sf ∧ (pack (rollL t b n hs s.leases pf s.idle sf)).ok w
  st := by
    rintro w w' hk ⟨hs, pf, sf, h1, h2⟩
    exact ⟨hs, pf, sf, h1, (pack _).st (fun c hc => hk c ((roll_fp c).1 hc)) h2⟩
section
variable {t : Tys} {b : Nat} {n n' : Nm} {s s' : St} {X : Nat → Prop} {w0 w w' : World} {A : List Rsc} {hs : Int → Option Int} {pf : Int → Option Pl} {sf : Int → Int → Option Int} {ls : List Ls} {is : List Int}
theorem _root_.Go.Vk.Own.rollOpen (S : Own X w0 w (A ++ [rollS t b n s])) : ∃ hs pf sf, RollOk n s hs pf sf ∧ Own X w0 w (A ++ rollL t b n hs s.leases pf s.idle sf) := by
  have hr : (A ++ [rollS t b n s])[A.length]? = some (rollS t b n s) := by simp
  obtain ⟨hs, pf, sf, h1, h2⟩ := S.at _ hr
  refine ⟨hs, pf, sf, h1, ?_⟩
  have := S.as A.length hr (r' := pack (rollL t b n hs s.leases pf s.idle sf)) h2 fun c hc => (roll_fp c).1 hc
  rw [List.set_append_right _ _ (Nat.le_refl _), Nat.sub_self, List.set_cons_zero] at this
  exact this.unpack
theorem _root_.Go.Vk.Own.rollShut (S : Own X w0 w (A ++ rollL t b n hs s.leases pf s.idle sf)) (h : RollOk n s hs pf sf) : Own X w0 w (A ++ [rollS t b n s]) := by
  have S1 := S.pack
  have hr : (A ++ [pack (rollL t b n hs s.leases pf s.idle sf)])[A.length]? = some (pack (rollL t b n hs s.leases pf s.idle sf)) := by simp
  have := S1.as A.length hr (r' := rollS t b n s) ⟨hs, pf, sf, h, S1.at _ hr⟩ fun c hc => (roll_fp c).2 hc
  rwa [List.set_append_right _ _ (Nat.le_refl _), Nat.sub_self, List.set_cons_zero] at this
/-- A roll that is read. -/
structure RollRO (t : Tys) (b : Nat) (n : Nm) (s : St) (hs : Int → Option Int) (pf : Int → Option Pl) (sf : Int → Int → Option Int) (w : World) : Prop where
  ok : RollOk n s hs pf sf
  ro : RO (pack (rollL t b n hs s.leases pf s.idle sf)) w
theorem RollRO.of (h : RO (rollS t b n s) w) : ∃ hs pf sf, RollRO t b n s hs pf sf w := by
  obtain ⟨hs, pf, sf, h1, h2⟩ := h.ok
  exact ⟨hs, pf, sf, h1, h2, fun c hc => h.bd c ((roll_fp c).1 hc)⟩
theorem RollRO.le (h : RollRO t b n s hs pf sf w) (hk : Le w w') : RollRO t b n s hs pf sf w' := ⟨h.ok, h.ro.le hk⟩
theorem RollRO.blk (h : RollRO t b n s hs pf sf w) : Blk w b (rollC n) t.roll := (h.ro.at 0 rfl).ok
theorem RollRO.hm (h : RollRO t b n s hs pf sf w) : (mapr kInt kInt n.h hs).ok w := (h.ro.at 1 rfl).ok
theorem RollRO.lm (h : RollRO t b n s hs pf sf w) : Rd (lsE t.lease) w n.lv s.leases := vec_rd (h.ro.at 2 rfl).ok
theorem RollRO.pm (h : RollRO t b n s hs pf sf w) : (mapr kInt plV n.p pf).ok w := (h.ro.at 3 rfl).ok
theorem RollRO.sm (h : RollRO t b n s hs pf sf w) : (mapr kInt mV n.s n.inn).ok w := (h.ro.at 5 rfl).ok
theorem Nm.inn_mem {o : Int} {m : Nat} (h : n.inn o = some m) : (o, m) ∈ n.ms := by
  unfold Nm.inn at h
  rw [Option.map_eq_some_iff] at h
  obtain ⟨q, hq, rfl⟩ := h
  have h1 := List.find?_some hq
  have h2 := List.mem_of_find?_eq_some hq
  simp at h1; subst h1; exact h2
theorem RollRO.em (h : RollRO t b n s hs pf sf w) {o : Int} {m : Nat} (hm : n.inn o = some m) : (mapr kInt kInt m (sf o)).ok w :=
  ((h.ro.at 6 rfl).mem (List.mem_map.2 ⟨(o, m), Nm.inn_mem hm, rfl⟩)).ok
end
end Go.Vk.Deed

/- Deeds, as plain mathematics, part 2: what a register is. No program in sight. -/
namespace Go.Vk.Deed
open Go Go.Vk Go.Vk.Flow

theorem own_iff {n : Int} : own n = true ↔ 1 ≤ n ∧ n ≤ 40 := by simp [own, rng]
theorem rng_iff {n a b : Int} : rng n a b = true ↔ a ≤ n ∧ n ≤ b := by simp [rng]
/-- What a deed's kind does not use. -/
def zeroB (x : D) : Bool := decide (x.day = 0 ∧ x.frm = 0 ∧ x.to = 0 ∧ x.parts = 0 ∧ x.stop = 0 ∧ x.of = 0 ∧ x.heirs.length = 0 ∧ x.shares.length = 0)
def bareD (x : D) : D := { x with id := 0, known := 0, day := 0, kind := 0 }
def headB (x : D) : Bool := rng x.id 1 400 && rng x.known 0 100000 && rng x.day 0 100000
def twoB (x : D) : Bool := own x.frm && own x.to && decide (x.frm ≠ x.to)
section
variable {x : D}
theorem formed_bad (h : headB x = false) : formed x = false := by
  simp only [formed, headB] at *
  rw [h, Bool.false_and]
theorem len0 {l : List Int} : l.isEmpty = decide (l.length = 0) := by cases l <;> simp
theorem formed1 (h : headB x = true) (k : x.kind = 1) : formed x = (own x.to && rng x.parts 1 1000000000 && zeroB { bareD x with to := 0, parts := 0 }) := by
  simp only [formed, headB] at *
  rw [h, Bool.true_and, Bool.eq_iff_iff]
  simp [kindB, k, zeroB, bareD, noLists, len0]
  intros; constructor <;> (intro h; simp_all)
theorem formed25 (h : headB x = true) (k : x.kind = 2 ∨ x.kind = 5) : formed x = (twoB x && rng x.parts 1 1000000000 && zeroB { bareD x with frm := 0, to := 0, parts := 0 }) := by
  simp only [formed, headB] at *
  rw [h, Bool.true_and, Bool.eq_iff_iff]
  rcases k with k | k <;> simp [kindB, k, zeroB, bareD, noLists, len0, twoB] <;> intros <;> constructor <;> (intro h; simp_all)
theorem formed3 (h : headB x = true) (k : x.kind = 3) : formed x = (heirsB x && zeroB { bareD x with frm := 0, heirs := [], shares := [] }) := by
  simp only [formed, headB] at *
  rw [h, Bool.true_and, Bool.eq_iff_iff]
  simp [kindB, k, zeroB, bareD]
theorem formed4 (h : headB x = true) (k : x.kind = 4) : formed x = (twoB x && rng x.parts 1 1000000000 && rng x.stop x.day 100000 && zeroB { bareD x with frm := 0, to := 0, parts := 0, stop := 0 }) := by
  simp only [formed, headB] at *
  rw [h, Bool.true_and, Bool.eq_iff_iff]
  simp [kindB, k, zeroB, bareD, noLists, len0, twoB]
  intros; constructor <;> (intro h; simp_all)
theorem formed67 (h : headB x = true) (k : x.kind = 6 ∨ x.kind = 7) : formed x = (rng x.of 1 (x.id - 1) && zeroB { bareD x with of := 0 }) := by
  simp only [formed, headB] at *
  rw [h, Bool.true_and, Bool.eq_iff_iff]
  rcases k with k | k <;> simp [kindB, k, zeroB, bareD, noLists, len0] <;> intros <;> constructor <;> (intro h; simp_all)
theorem formed8 (h : headB x = true) (k : x.kind = 8) : formed x = (rng x.of 1 (x.id - 1) && decide (x.day = 0) && zeroB { bareD x with of := 0 }) := by
  simp only [formed, headB] at *
  rw [h, Bool.true_and, Bool.eq_iff_iff]
  simp [kindB, k, zeroB, bareD, noLists, len0]
  intros; constructor <;> (intro h; simp_all)
theorem formed0 (h1 : x.kind ≠ 1) (h2 : x.kind ≠ 2) (h3 : x.kind ≠ 3) (h4 : x.kind ≠ 4) (h5 : x.kind ≠ 5) (h6 : x.kind ≠ 6) (h7 : x.kind ≠ 7) (h8 : x.kind ≠ 8) : formed x = false := by
  simp [formed, kindB, h1, h2, h3, h4, h5, h6, h7, h8]
end
theorem heirs_ok {x : D} (h0 : rng (x.heirs.length : Int) 1 10 = true ∧ (x.shares.length : Int) = x.heirs.length ∧ own x.frm = true ∧ x.heirs.all own = true) (h1 : x.shares.all (fun n => rng n 1 1000) = true) : heirsB x = fresh [x.frm] x.heirs := by
  obtain ⟨g1, g2, g3, g4⟩ := h0
  rw [rng_iff] at g1
  unfold heirsB; rw [h1, g3, g4, decide_eq_true (p := 1 ≤ x.heirs.length ∧ x.heirs.length ≤ 10) (by omega), decide_eq_true (p := x.shares.length = x.heirs.length) (by omega)]; rfl
theorem heirs_no {x : D} (h0 : rng (x.heirs.length : Int) 1 10 = true → (x.shares.length : Int) = x.heirs.length → own x.frm = true → x.heirs.all own = true → False) : heirsB x = false := by
  cases hh : heirsB x with
  | false => rfl
  | true =>
    unfold heirsB at hh
    simp only [Bool.and_eq_true, decide_eq_true_eq] at hh
    obtain ⟨⟨⟨⟨⟨g1, g2⟩, g3⟩, g4⟩, _⟩, _⟩ := hh
    exact (h0 (rng_iff.2 (by omega)) (by omega) g3 g4).elim
theorem heirs_sh {x : D} (h1 : (x.shares.any fun n => !rng n 1 1000) = true) : heirsB x = false := by
  have : x.shares.all (fun n => rng n 1 1000) = false := by
    rw [List.any_eq_true] at h1
    obtain ⟨z, hz, h⟩ := h1
    rw [List.all_eq_false]
    exact ⟨z, hz, by simpa using h⟩
  unfold heirsB; rw [this, Bool.and_false, Bool.false_and]
/-- A set, as a map says it. -/
def setM (l : List Int) : Int → Option Bool := fun k => if k ∈ l then some true else none
theorem setM_nil : (mnil : Int → Option Bool) = setM [] := by funext k; simp [mnil, setM]
theorem setM_cons {l : List Int} {k : Int} : mset (setM l) k true = setM (k :: l) := by
  funext q
  unfold mset setM
  by_cases h : q = k <;> simp [h]
theorem setM_get {l : List Int} {k : Int} : (setM l k).elim (.bool false) Value.bool = .bool (l.contains k) := by
  unfold setM
  by_cases h : k ∈ l <;> simp [h]
theorem fresh_step {seen l : List Int} {i : Nat} {y : Int} (hy : l[i]? = some y) (h : seen.contains y = false) : fresh seen (l.drop i) = fresh (y :: seen) (l.drop (i + 1)) := by
  obtain ⟨hi, rfl⟩ := List.getElem?_eq_some_iff.1 hy
  rw [List.drop_eq_getElem_cons hi, fresh, h, Bool.not_false, Bool.true_and]
theorem fresh_no {seen l : List Int} {i : Nat} {y : Int} (hy : l[i]? = some y) (h : seen.contains y = true) : fresh seen (l.drop i) = false := by
  obtain ⟨hi, rfl⟩ := List.getElem?_eq_some_iff.1 hy
  rw [List.drop_eq_getElem_cons hi, fresh, h, Bool.not_true, Bool.false_and]

/-! ### sums -/
theorem sumI_snoc {l : List Int} {x : Int} : sumI (l ++ [x]) = sumI l + x := by simp [sumI, List.foldl_append]
theorem sumI_nil : sumI [] = 0 := rfl
theorem sumI_cons {l : List Int} {x : Int} : sumI (x :: l) = x + sumI l := by
  have key : ∀ (l : List Int) (a : Int), l.foldl (· + ·) a = a + sumI l := by
    intro l
    induction l with
    | nil => intro a; simp [sumI]
    | cons y l ih => intro a; simp only [sumI, List.foldl_cons]; rw [ih, ih (0 + y)]; omega
  simp only [sumI, List.foldl_cons]; rw [key]; simp only [sumI]; omega
theorem sumI_bd : ∀ {l : List Int} {B : Int}, (∀ x ∈ l, 0 ≤ x ∧ x ≤ B) → 0 ≤ sumI l ∧ sumI l ≤ B * l.length := by
  intro l
  induction l with
  | nil => intro B _; simp [sumI]
  | cons x l ih =>
    intro B h
    have h1 := h x (List.mem_cons_self ..)
    have h2 := ih fun y hy => h y (List.mem_cons_of_mem _ hy)
    rw [sumI_cons, List.length_cons, Int.natCast_add, Int.mul_add]
    simp only [Int.natCast_one, Int.mul_one]
    omega
section
variable {l : List D} {x y : D} {i : Nat}
theorem enters_take (hy : l[i]? = some y) : enters (l.take (i + 1)) = enters (l.take i) + if y.kind = 1 then y.parts else 0 := by
  rw [enters, List.take_add_one, hy, List.map_append]
  exact sumI_snoc
theorem formed_parts (h : formed x = true) (k : x.kind = 1) : 1 ≤ x.parts ∧ x.parts ≤ 1000000000 := by
  simp [formed, kindB, k, rng] at h
  omega
theorem enters_bd (h : ∀ y ∈ l, formed y = true) : 0 ≤ enters l ∧ enters l ≤ 1000000000 * l.length := by
  have h1 := sumI_bd (l := l.map fun x => if x.kind = 1 then x.parts else 0) (B := 1000000000) fun z hz => by
    obtain ⟨y, hy, rfl⟩ := List.mem_map.1 hz
    split
    · have := formed_parts (h y hy) (by assumption); omega
    omega
  rwa [List.length_map] at h1
theorem enters_bd_take (h : ∀ y ∈ l, formed y = true) (i : Nat) (hl : l.length < 400) : 0 ≤ enters (l.take i) ∧ enters (l.take i) ≤ 400000000000 := by
  have h1 := enters_bd (l := l.take i) fun y hy => h y (List.mem_of_mem_take hy)
  rw [List.length_take] at h1
  have : (min i l.length : Int) < 400 := by omega
  omega

/-! ### one more deed -/
theorem fol_full (h : 400 ≤ l.length) : follows l x = 2 := by rw [follows, if_pos h]
theorem fol_form (h : l.length < 400) (hb : formed x = false ∨ ¬ x.id = l.length + 1) : follows l x = 1 := by rw [follows, if_neg (by omega), if_pos hb]
theorem fol_time (h : l.length < 400) (hf : formed x = true) (hi : x.id = l.length + 1) {j : Nat} (hy : l[j]? = some y) (hj : j = l.length - 1) (ht : x.known < y.known) : follows l x = 7 := by
  have : l.getLast? = some y := by rw [List.getLast?_eq_getElem?, ← hj]; exact hy
  rw [follows, if_neg (by omega), if_neg (by simp [hf, hi]), if_pos]
  rw [lateB, this]; simpa using ht
theorem fol_go (h : l.length < 400) (hf : formed x = true) (hi : x.id = l.length + 1) (ht : lateB l x = false) : follows l x = if 0 < x.of then (if named l x then 8 else 0) else if x.kind = 1 then (if 1000000000 < enters l + x.parts then 2 else 0) else 0 := by
  rw [follows, if_neg (by omega), if_neg (by simp [hf, hi]), if_neg (by simp [ht])]
theorem fol_of (h : l.length < 400) (hf : formed x = true) (hi : x.id = l.length + 1) (ht : lateB l x = false) (ho : 0 < x.of) : follows l x = if named l x then 8 else 0 := by rw [fol_go h hf hi ht, if_pos ho]
theorem fol_enter (h : l.length < 400) (hf : formed x = true) (hi : x.id = l.length + 1) (ht : lateB l x = false) (ho : ¬ 0 < x.of) (k : x.kind = 1) : follows l x = if 1000000000 < enters l + x.parts then 2 else 0 := by rw [fol_go h hf hi ht, if_neg ho, if_pos k]
theorem fol_else (h : l.length < 400) (hf : formed x = true) (hi : x.id = l.length + 1) (ht : lateB l x = false) (ho : ¬ 0 < x.of) (k : ¬ x.kind = 1) : follows l x = 0 := by rw [fol_go h hf hi ht, if_neg ho, if_neg k]
theorem named_at (hy : l[(x.of - 1).toNat]? = some y) : named l x = if x.kind = 8 then decide (y.kind = 8) || l.any (fun z => decide (z.kind = 8 ∧ z.of = x.of)) else decide (y.kind ≠ 5) := by rw [named, hy]
theorem dl_any {rs : List Rw} {p : D → Bool} : (dl rs).any p = rs.any fun a => p a.1 := by simp [dl, List.any_map]; rfl
theorem fol_last {rs : List Rw} {a : Rw} (hy : rs[rs.length - 1]? = some a) (h : ¬ x.known < a.1.known) : lateB (dl rs) x = false := by
  have : (dl rs).getLast? = some a.1 := by rw [List.getLast?_eq_getElem?, dl_len]; exact dl_get hy
  rw [lateB, this]; simpa using h
theorem fol_last0 {rs : List Rw} (h : rs.length = 0) : lateB (dl rs) x = false := by
  obtain rfl : rs = [] := List.length_eq_zero_iff.1 h
  rfl
theorem formed_of (h : formed x = true) (ho : 0 < x.of) : x.of ≤ x.id - 1 ∧ (x.kind = 6 ∨ x.kind = 7 ∨ x.kind = 8) := by
  simp only [formed, Bool.and_eq_true] at h
  have hk := h.2
  simp only [kindB] at hk
  split at hk
  · simp at hk; omega
  split at hk
  · simp at hk; omega
  split at hk
  · simp at hk; omega
  split at hk
  · simp at hk; omega
  split at hk
  · simp [rng] at hk; omega
  split at hk
  · simp [rng] at hk; omega
  cases hk

/-! ### the check -/
theorem follows_formed (h : follows l x = 0) : formed x = true ∧ x.id = l.length + 1 ∧ l.length < 400 := by
  unfold follows at h
  split at h
  · cases h
  split at h
  · cases h
  next h1 h2 =>
  rw [not_or] at h2
  exact ⟨by simpa using h2.1, Decidable.not_not.1 h2.2, by omega⟩
theorem chkAt_get (h : l[i]? = some x) : chkAt l i = follows (l.take i) x := by rw [chkAt, h]
theorem chk_none (h : ∀ j, j < l.length → chkAt l j = 0) : chkD l = (0, 0) := by
  have : (List.range l.length).find? (fun i => decide (chkAt l i ≠ 0)) = none := by
    rw [List.find?_eq_none]
    intro j hj
    simp [h j (List.mem_range.1 hj)]
  rw [chkD, this]
theorem chk_at (hi : i < l.length) (h0 : ∀ j, j < i → chkAt l j = 0) (h : chkAt l i ≠ 0) : chkD l = ((i : Int), chkAt l i) := by
  have : (List.range l.length).find? (fun i => decide (chkAt l i ≠ 0)) = some i := by
    rw [List.find?_range_eq_some]
    refine ⟨by simpa using h, List.mem_range.2 hi, fun j hj => by simp [h0 j hj]⟩
  rw [chkD, this]
theorem right_iff : rightD l = true ↔ ∀ j, j < l.length → chkAt l j = 0 := by
  rw [rightD, decide_eq_true_iff]
  constructor
  · intro h j hj
    refine Classical.byContradiction fun hn => ?_
    -- the first one
    have hex : ∃ i, i < l.length ∧ chkAt l i ≠ 0 ∧ ∀ j, j < i → chkAt l j = 0 := by
      have key : ∀ n, n ≤ l.length → (∃ i, i < n ∧ chkAt l i ≠ 0 ∧ ∀ j, j < i → chkAt l j = 0) ∨ ∀ j, j < n → chkAt l j = 0 := by
        intro n
        induction n with
        | zero => intro _; exact .inr fun j hj => absurd hj (Nat.not_lt_zero j)
        | succ n ih =>
          intro hn
          rcases ih (by omega) with ⟨i, h1, h2⟩ | h1
          · exact .inl ⟨i, by omega, h2⟩
          by_cases h2 : chkAt l n = 0
          · exact .inr fun j hj => by
              rcases Nat.lt_or_ge j n with h3 | h3
              · exact h1 j h3
              have : j = n := by omega
              subst this; exact h2
          exact .inl ⟨n, by omega, h2, h1⟩
      rcases key l.length (Nat.le_refl _) with ⟨i, h1⟩ | h1
      · exact ⟨i, h1⟩
      exact absurd (h1 j hj) hn
    obtain ⟨i, h1, h2, h3⟩ := hex
    rw [chk_at h1 h3 h2] at h
    exact h2 h
  intro h; rw [chk_none h]
theorem right_at (h : rightD l = true) (hx : l[i]? = some x) : follows (l.take i) x = 0 := by
  rw [← chkAt_get hx]; exact right_iff.1 h i (List.getElem?_eq_some_iff.1 hx).1
theorem right_formed (h : rightD l = true) (hx : x ∈ l) : formed x = true := by
  obtain ⟨i, hi⟩ := List.getElem?_of_mem hx
  exact (follows_formed (right_at h hi)).1
theorem right_id (h : rightD l = true) (hx : l[i]? = some x) : x.id = i + 1 ∧ i < 400 := by
  have h1 := (follows_formed (right_at h hx)).2
  have hi := (List.getElem?_eq_some_iff.1 hx).1
  rw [List.length_take] at h1
  omega
theorem right_len (h : rightD l = true) : l.length ≤ 400 := by
  cases hl : l.length with
  | zero => omega
  | succ n =>
    obtain ⟨x, hx⟩ : ∃ x, l[n]? = some x := ⟨_, List.getElem?_eq_getElem (by omega)⟩
    have := (right_id h hx).2
    omega
end
end Go.Vk.Deed

/- The proof engine, part 31: strings that are known. Generic over the program. -/
namespace Go.Vk
open Go
section
variable {P : Program} {E : Operand → Value} {w : World} {ty T T' : TypeId} {x y : Operand}
end

section
variable {P : Program} {b : Frame} {cs : List Frame} {fin : Machine → Prop} {n : Nat} {k : List Item} {ρ : Env} {ds : List Deferred} {w : World} {ops : Array Oper} {m : Nat} {Y : Nat → Prop} {listed listed' : Array Bool}
  {d : Nat} {ty : TypeId} {pos : String} {af : Array Edge} {g : Option (Nat × Bool)} {v : Value} {T : TypeId} {x z : Operand} {α : Type} {E : Elt α} {l : List α} {q : Int}
end
end Go.Vk

/- The proof engine, part 32: signed division, an interface that is not nil, maps with strings as keys. Generic over the program. -/
namespace Go.Vk
open Go
section
variable {P : Program} {E : Operand → Value} {w : World} {ty T T' : TypeId} {x y : Operand} {a c : Int} {v : Value}
/-- Division, rounded to 0. -/
theorem x_quot (hx : E x = .int .i64 a) (hy : E y = .int .i64 c) (hb : c ≠ 0 ∧ -9223372036854775807 ≤ a ∧ a ≤ 9223372036854775807) : X P E (.binOp .quo T x y T') ty w (.int .i64 (a.tdiv c)) w := by
  refine ⟨nofun, fun _ _ _ _ => ?_⟩
  have h0 : c ≠ 0 := hb.1
  have e : IntKind.i64.wrap (a.tdiv c) = a.tdiv c := by
    have h1 : (a.tdiv c).natAbs ≤ a.natAbs := by rw [Int.natAbs_tdiv]; exact Nat.div_le_self _ _
    exact IntWalk.i64_in _ (by omega)
  simp [execOp, hx, hy, binOp, eqGuard, Op.intDiv, go_sem, h0, e]
/-- The remainder of a division that is rounded to 0. -/
theorem x_remt (hx : E x = .int .i64 a) (hy : E y = .int .i64 c) (hb : c ≠ 0) : X P E (.binOp .rem T x y T') ty w (.int .i64 (a.tmod c)) w := by
  refine ⟨nofun, fun _ _ _ _ => ?_⟩
  simp [execOp, hx, hy, binOp, eqGuard, Op.intDiv, go_sem, hb]
/-- An interface's value against nil. -/
theorem x_nneiface {t : Bool} {ms : Array (String × TypeId)} {T' : TypeId} (hu : ∀ w, (underlying T).run P w = .ok (.interface ms) w) (hx : E x = v) (hy : E (.const .nilIface) = .nilIface) (hv : v = .nilIface ∨ ∃ t u, v = .iface t u) (ht : (!isNilI v) = t) :
    Go.Vk.X P E (.binOp .neq T x (.const .nilIface) T') ty w (.bool t) w :=
  ⟨nofun, fun _ _ _ _ => by
    subst ht
    have h := run_equal_iface (P := P) (w := w) hu hv
    simp only [execOp, hx, hy, Sem.run_bind]
    rw [show (eqGuard .neq T x (.const .nilIface) v .nilIface).run P w = .ok () w from by rcases hv with rfl | ⟨t, u, rfl⟩ <;> simp [eqGuard, go_sem]]
    have hb : binOp .neq T v .nilIface = (do pure (.bool (!(← Op.equal T v .nilIface)))) := by rcases hv with rfl | ⟨t, u, rfl⟩ <;> rfl
    simp only [Result.andThen_ok, hb, Sem.run_bind, h, Sem.run_pure]⟩
end
abbrev kStr (s : ByteArray) : Value := .string s
theorem keyStr {P : Program} {kt : TypeId} (hu : P.underlying kt = some .string) : KeyOk P kt .string kStr := ⟨hu, fun _ => trivial, fun k k' h => by cases h; rfl⟩
end Go.Vk
