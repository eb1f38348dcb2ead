/- Texts joined for claims: VkMaps2, VkOps4, VkDeedMem, VkDeedChk, VkMarkMath, VkOps5, VkOps6, VkBits6, VkStr6, VkMarkHall. -/
import Derived.Test.YtaigapdghhoncaaGreatDoorK92608acdbc
import Derived.Laws.IdiomRangeMap
set_option linter.unusedVariables false
set_option linter.unusedSimpArgs false
set_option linter.unusedSectionVars false
namespace Go.Vk
open Go
set_option linter.unusedSectionVars false
set_option linter.unusedVariables false

structure ItOk {κ α : Type} (key : κ → Value) (val : α → Value) (es : Array MapEntry) (vs : List MapEntry) (vis : List (κ × α)) : Prop where
 sub : ∀ x ∈ vs, x ∈ es.toList
 nd : (vs.map (·.born)).Nodup
 eq : vs.map (fun x => (x.key, x.val)) = vis.map fun p => (key p.1, val p.2)
def itr {κ α : Type} (key : κ → Value) (val : α → Value) (b m : Nat) (es : Array MapEntry) (clock : Nat) (vis : List (κ × α)) : Rsc :=
 ⟨(· = b), fun w => ∃ vs, w.heap[b]? = some (.mapIter (some m) clock (vs.map (·.born)).toArray clock) ∧ ItOk key val es vs vis, by intro w w' h hh; obtain ⟨vs, h1, h2⟩ := hh; exact ⟨vs, (h b rfl).trans h1, h2⟩⟩

section
variable {κ α : Type} {key : κ → Value} {val : α → Value} {f : κ → Option α} {es : Array MapEntry} {clock : Nat} {k : κ} {a : α} {vs : List MapEntry} {vis : List (κ × α)} {P : Program} {kt : TypeId} {d : TypeDesc}
theorem ItOk.nil : ItOk key val es [] ([] : List (κ × α)) := ⟨by simp, by simp, rfl⟩
theorem ItOk.left (h : ItOk key val es vs vis) (e : MapEntry) (he : e ∈ (leftOf es (vs.map (·.born)).toArray).toList) : e ∈ es.toList ∧ e.born ∉ vs.map (·.born) := by
 unfold leftOf at he
 simp only [Array.toList_filter, List.mem_filter, Bool.not_eq_true', List.contains_toArray] at he
 exact ⟨he.1, fun hh => by have := he.2; simp at this; obtain ⟨x, hx, e1⟩ := List.mem_map.1 hh; exact this x hx e1⟩
theorem ItOk.all (h : ItOk key val es vs vis) (hM : MapOk key val f es clock) (hK : KeyOk P kt d key) (hval : ∀ a a', val a = val a' → a = a') (h0 : (leftOf es (vs.map (·.born)).toArray).size = 0) : ∀ k a, f k = some a → (k, a) ∈ vis := by
 intro k a hf
 obtain ⟨x, hx, e1, e2⟩ := hM.all k a hf
 have hin : x.born ∈ vs.map (·.born) := by
  refine Classical.byContradiction fun hn => ?_
  have : x ∈ (leftOf es (vs.map (·.born)).toArray).toList := by
   unfold leftOf
   simp only [Array.toList_filter, List.mem_filter]
   refine ⟨hx, ?_⟩
   simp only [Bool.not_eq_true', List.contains_toArray]
   simp
   intro y hy e
   exact hn (List.mem_map.2 ⟨y, hy, e⟩)
  have h1 := List.length_pos_of_mem this
  rw [Array.length_toList, h0] at h1
  omega
 obtain ⟨y, hy, e3⟩ := List.mem_map.1 hin
 have hy' := h.sub y hy
 have hxy : y = x := by
  have hn := List.pairwise_iff_getElem.1 (show (es.toList.map (·.born)).Pairwise (· ≠ ·) from hM.st.2.1)
  obtain ⟨i, hi, q1⟩ := List.mem_iff_getElem.1 hx
  obtain ⟨j, hj, q2⟩ := List.mem_iff_getElem.1 hy'
  rcases Nat.lt_trichotomy i j with hlt | hlt | hlt
  ·have := hn i j (by simpa using hi) (by simpa using hj) hlt
   simp only [List.getElem_map, q1, q2] at this
   exact absurd e3.symm this
  ·subst hlt; exact q2.symm.trans q1
  have := hn j i (by simpa using hj) (by simpa using hi) hlt
  simp only [List.getElem_map, q1, q2] at this
  exact absurd e3 this
 subst hxy
 have h4 : (y.key, y.val) ∈ vis.map fun p => (key p.1, val p.2) := by rw [← h.eq]; exact List.mem_map.2 ⟨y, hy, rfl⟩
 obtain ⟨p, hp, e5⟩ := List.mem_map.1 h4
 simp only [Prod.mk.injEq] at e5
 have : p = (k, a) := Prod.ext (hK.inj _ _ (e5.1.trans e1)) (hval _ _ (e5.2.trans e2))
 rw [← this]; exact hp
theorem ItOk.more (h : ItOk key val es vs vis) (hM : MapOk key val f es clock) (hK : KeyOk P kt d key) {e : MapEntry} (he : e ∈ (leftOf es (vs.map (·.born)).toArray).toList) :
  ∃ k a, e.key = key k ∧ e.val = val a ∧ f k = some a ∧ (∀ p ∈ vis, p.1 ≠ k) ∧ ItOk key val es (vs ++ [e]) (vis ++ [(k, a)]) := by
 obtain ⟨h1, h2⟩ := h.left e he
 obtain ⟨k, a, e1, e2, e3⟩ := hM.of e h1
 refine ⟨k, a, e1, e2, e3, fun p hp ek => ?_, fun x hx => ?_, ?_, by rw [List.map_append, List.map_append, h.eq]; simp [e1, e2]⟩
 ·have h4 : (key p.1, val p.2) ∈ vs.map (fun x => (x.key, x.val)) := by rw [h.eq]; exact List.mem_map.2 ⟨p, hp, rfl⟩
  obtain ⟨y, hy, e5⟩ := List.mem_map.1 h4
  simp only [Prod.mk.injEq] at e5
  have hy' := h.sub y hy
  have hn := List.pairwise_iff_getElem.1 (show (es.toList.map (·.key)).Pairwise (· ≠ ·) from hM.st.2.2)
  obtain ⟨i, hi, q1⟩ := List.mem_iff_getElem.1 h1
  obtain ⟨j, hj, q2⟩ := List.mem_iff_getElem.1 hy'
  have hkk : y.key = e.key := by rw [e5.1, e1, ek]
  rcases Nat.lt_trichotomy i j with hlt | hlt | hlt
  ·have := hn i j (by simpa using hi) (by simpa using hj) hlt
   simp only [List.getElem_map, q1, q2] at this
   exact absurd hkk.symm this
  ·subst hlt
   have : y = e := q2.symm.trans q1
   subst this
   exact h2 (List.mem_map.2 ⟨y, hy, rfl⟩)
  have := hn j i (by simpa using hj) (by simpa using hi) hlt
  simp only [List.getElem_map, q1, q2] at this
  exact absurd hkk this
 ·rcases List.mem_append.1 hx with hx | hx
  ·exact h.sub x hx
  simp at hx; subst hx; exact h1
 rw [List.map_append]
 refine List.nodup_append.2 ⟨h.nd, by simp, fun x hx y hy => ?_⟩
 simp at hy; subst hy
 exact fun e => h2 (e ▸ hx)
end

section
variable {P : Program} {b : Frame} {cs : List Frame} {fin : Machine → Prop} {n : Nat} {all : Array Oper} {rest : List Oper} {k : List Item} {ρ : Env} {ds : List Deferred} {w w' : World}
 {d : Nat} {ty : TypeId} {pos : String} {af : Array Edge} {g : Option (Nat × Bool)} {T kt et : TypeId} {x y z : Operand} {dk : TypeDesc}
 {κ α : Type} {key : κ → Value} {val : α → Value} {f : κ → Option α} {X : Nat → Prop} {w0 : World} {L : List Rsc} {m bi : Nat} {es : Array MapEntry} {clock : Nat} {vis : List (κ × α)}
end

section
variable {P : Program} {b : Frame} {cs : List Frame} {fin : Machine → Prop} {n : Nat} {all : Array Oper} {rest : List Oper} {k : List Item} {ρ : Env} {ds : List Deferred} {w w' : World}
 {d : Nat} {ty : TypeId} {pos : String} {af : Array Edge} {g : Option (Nat × Bool)} {T kt et : TypeId} {x y z : Operand} {dk : TypeDesc}
 {κ α : Type} [DecidableEq κ] {key : κ → Value} {val : α → Value} {f : κ → Option α} {X : Nat → Prop} {w0 : World} {L : List Rsc} {m : Nat} {k0 : κ}
end
end Go.Vk

namespace Go.Vk
open Go
set_option linter.unusedSectionVars false
set_option linter.unusedVariables false

structure RO (r : Rsc) (w : World) : Prop where
 ok : r.ok w
 bd : ∀ b, r.fp b → b < w.heap.size
theorem RO.le {r : Rsc} {w w' : World} (h : RO r w) (hk : Le w w') : RO r w' :=
 ⟨r.st (fun b hb => hk.block b (h.bd b hb) id) h.ok, fun b hb => Nat.lt_of_lt_of_le (h.bd b hb) hk.size⟩
section
variable {X : Nat → Prop} {w0 w w' : World} {L M : List Rsc} {r r' s : Rsc}
theorem Own.ro (S : Own X w0 w L) (k : Nat) (hk : L[k]? = some r) : RO r w := ⟨S.at k hk, fun b hb => (S.bd k r hk b hb).1⟩
theorem RO.mem (h : RO (pack M) w) (hr : r ∈ M) : RO r w := ⟨h.ok.1 r hr, fun b hb => h.bd b ⟨r, hr, hb⟩⟩
theorem RO.at (h : RO (pack M) w) (k : Nat) (hk : M[k]? = some r) : RO r w := h.mem (List.mem_of_getElem? hk)

end

section
variable {P : Program} {E : Operand → Value} {w : World} {ty T kt et : TypeId} {x y : Operand} {v z : Value}
theorem x_part {k : IntKind} {i : Int} {n : Nat} {e : TypeId} {cs : Array Value} (hx : E x = .agg cs) (hy : E y = .int k i) (hu : ∀ w, (underlying T).run P w = .ok (.array n e) w) (hs : ∀ w, (sizeOf e).run P w = .ok 1 w) (ha : ∀ w, (isAgg e).run P w = .ok false w)
  (hb : 0 ≤ i ∧ i < n) (hv : cs[i.toNat]? = some v) : X P E (.index T x y) ty w v w := by
 refine ⟨nofun, fun _ _ _ _ => ?_⟩
 simp [execOp, hx, hy, Instr.index, asIntOf, hu, hs, hb.1, hb.2, part, ha, hv, go_sem]
def isNilI : Value → Bool
 | .nilIface => true
 | _ => false
theorem run_equal_iface {ms : Array (String × TypeId)} (hu : ∀ w, (underlying T).run P w = .ok (.interface ms) w) (hv : v = .nilIface ∨ ∃ t u, v = .iface t u) : (Op.equal T v .nilIface).run P w = .ok (isNilI v) w := by
 unfold Op.equal
 obtain ⟨m, hm⟩ : ∃ m, Op.maxDepth = m + 1 := ⟨9999, rfl⟩
 rw [hm]
 rcases hv with rfl | ⟨t, u, rfl⟩ <;> simp only [Op.equalIn, Sem.run_bind, hu, Result.andThen_ok] <;> rfl
theorem x_niliface {t : Bool} {ms : Array (String × TypeId)} {T' : TypeId} (hu : ∀ w, (underlying T).run P w = .ok (.interface ms) w) (hx : E x = v) (hy : E (.const .nilIface) = .nilIface) (hv : v = .nilIface ∨ ∃ t u, v = .iface t u) (ht : (isNilI v) = t) :
  Go.Vk.X P E (.binOp .eql T x (.const .nilIface) T') ty w (.bool t) w :=
 ⟨nofun, fun _ _ _ _ => by
  subst ht
  have h := run_equal_iface (P := P) (w := w) hu hv
  simp only [execOp, hx, hy, Sem.run_bind]
  rw [show (eqGuard .eql T x (.const .nilIface) v .nilIface).run P w = .ok () w from by rcases hv with rfl | ⟨t, u, rfl⟩ <;> simp [eqGuard, go_sem]]
  have hb : binOp .eql T v .nilIface = (do pure (.bool (← Op.equal T v .nilIface))) := by rcases hv with rfl | ⟨t, u, rfl⟩ <;> rfl
  simp only [Result.andThen_ok, hb, Sem.run_bind, h, Sem.run_pure]⟩
theorem x_mkiface {d : TypeDesc} (hx : E x = v) (hu : ∀ w, (underlying T).run P w = .ok d w) (hd : (match d with | .interface _ => false | _ => true) = true) : Go.Vk.X P E (.makeInterface T x) ty w (.iface T v) w :=
 ⟨nofun, fun _ _ _ _ => by
  cases d <;> first | (simp at hd; done) | simp [execOp, hx, Instr.makeInterface, hu, go_sem]⟩
theorem x_assert {A : TypeId} {d : TypeDesc} (hx : E x = .iface A v) (hu : ∀ w, (underlying A).run P w = .ok d w) (hd : (match d with | .interface _ => false | _ => true) = true) : Go.Vk.X P E (.typeAssert x T A true) ty w (.tuple #[v, .bool true]) w :=
 ⟨nofun, fun _ _ _ _ => by
  cases d <;> first | (simp at hd; done) | simp [execOp, hx, Instr.typeAssert, hu, go_sem]⟩
end

section
variable {P : Program} {b : Frame} {cs : List Frame} {fin : Machine → Prop} {n : Nat} {all : Array Oper} {rest : List Oper} {k : List Item} {ρ : Env} {ds : List Deferred} {w w' : World}
 {d : Nat} {ty : TypeId} {pos : String} {af : Array Edge} {g : Option (Nat × Bool)} {T kt et : TypeId} {x y z : Operand} {dk : TypeDesc}
theorem x_headm {α : Type} {E : Elt α} {l : List α} {ev : Operand → Value} {v : Value} {q : Int} {z z' : Operand} (hr : Rd E w v l) (hx : ev x = v) (hz : ev z = .int .i64 q) (hz' : ev z' = .int .i64 q) (hu : ∀ w, (underlying T).run P w = .ok (.slice E.T) w) (hs : ∀ w, (sizeOf E.T).run P w = .ok E.sz w) (hq : 0 ≤ q ∧ q ≤ l.length) :
  ∃ v', Rd E w v' (l.take q.toNat) ∧ ∀ w1, X P ev (.slice T x none (some z) (some z')) ty w1 v' w1 := by
 obtain ⟨a, cap, rfl, hc, hrow⟩ := hr
 have hlen : (l.take q.toNat).length = q.toNat := by rw [List.length_take]; omega
 refine ⟨.slice (if q.toNat = 0 then a else a.map (·.add (0 * E.sz))) q.toNat q.toNat, ⟨_, _, by rw [hlen], by rw [hlen]; exact Nat.le_refl _, fun i e hi => ?_⟩, fun w1 => ⟨nofun, fun _ _ _ _ => ?_⟩⟩
 ·rw [List.getElem?_take] at hi
  split at hi
  ·obtain ⟨b', o', rfl, hr⟩ := hrow i e hi
   refine ⟨b', o', ?_, hr⟩
   split
   ·rfl
   simp [addr_add]
  cases hi
 have hB : ∀ (u : Value) (m : Int) (y : Nat) (cd : BoundsCode) (w : World), u = .int .i64 m → 0 ≤ m ∧ m ≤ y → (Instr.sliceBound u y cd).run P w = .ok m.toNat w := by
  intro u m y cd w hz hm
  subst hz
  simp only [Instr.sliceBound, asIntOf, Sem.run_bind, Sem.run_pure, Result.andThen_ok]
  rw [if_pos hm]
  rfl
 have hsb : ∀ w, (Instr.sliceBounds true l.length cap none (some (ev z)) (some (ev z'))).run P w = .ok (0, q.toNat, q.toNat) w := by
  intro w
  unfold Instr.sliceBounds
  simp only [Sem.run_bind, Sem.run_pure, Result.andThen_ok, if_true, hB (ev z') q cap .slice3Acap w hz' (by omega), hB (ev z) q q.toNat .slice3B w hz (by omega)]
 simp only [execOp, Instr.sliceAt, Option.map_none, Option.map_some, hx, Sem.run_bind, hu, Result.andThen_ok, Instr.slice, hsb, hs, Sem.run_pure, Nat.sub_zero]
theorem l_headm {α : Type} {E : Elt α} {l : List α} {v : Value} {q : Int} {z' : Operand} (hr : Rd E w v l) (hg : gOk all n ρ g = true) (hx : ev n ρ x = v) (hz : ev n ρ z = .int .i64 q) (hz' : ev n ρ z' = .int .i64 q)
  (hu : ∀ w, (underlying T).run P w = .ok (.slice E.T) w) (hs : ∀ w, (sizeOf E.T).run P w = .ok E.sz w) (hq : 0 ≤ q ∧ q ≤ l.length)
  (h : ∀ v', Rd E w v' (l.take q.toNat) → RunL P b cs fin n all rest k (upd ρ d v') ds w) :
  RunL P b cs fin n all (⟨some d, .slice T x none (some z) (some z'), ty, pos, af, g⟩ :: rest) k ρ ds w := by
 obtain ⟨v', h1, h2⟩ := x_headm (P := P) (ty := ty) hr hx hz hz' hu hs hq
 exact l_x hg (h2 w) (h v' h1)
end

structure Vis {κ α : Type} (f : κ → Option α) (vis : List (κ × α)) : Prop where
 nd : (vis.map (·.1)).Nodup
 of : ∀ p ∈ vis, f p.1 = some p.2
section
variable {κ α : Type} {f : κ → Option α} {vis M : List (κ × α)} {c : κ} {a : α}
theorem Vis.nil : Vis f ([] : List (κ × α)) := ⟨by simp, fun _ h => by cases h⟩
theorem Vis.step (h : Vis f vis) (hf : f c = some a) (hn : ∀ p ∈ vis, p.1 ≠ c) : Vis f (vis ++ [(c, a)]) := by
 refine ⟨?_, fun p hp => ?_⟩
 ·rw [List.map_append]
  refine List.nodup_append.2 ⟨h.nd, by simp, fun x hx y hy => ?_⟩
  obtain ⟨p, hp, rfl⟩ := List.mem_map.1 hx
  simp at hy; subst hy
  exact hn p hp
 rcases List.mem_append.1 hp with hp | hp
 ·exact h.of p hp
 simp at hp; subst hp; exact hf
theorem nodup_of_keys {l : List (κ × α)} (h : (l.map (·.1)).Nodup) : l.Nodup := by
 induction l with
 | nil => simp
 | cons p l ih =>
  rw [List.map_cons, List.nodup_cons] at h
  exact List.nodup_cons.2 ⟨fun hm => h.1 (List.mem_map.2 ⟨p, hm, rfl⟩), ih h.2⟩
theorem perm_of_mem [BEq α] [LawfulBEq α] : ∀ {l m : List α}, l.Nodup → m.Nodup → (∀ x, x ∈ l ↔ x ∈ m) → l.Perm m := by
 intro l
 induction l with
 | nil => intro m _ _ h; cases m with
  | nil => exact .nil
  | cons y m => exact absurd ((h y).2 (List.mem_cons_self ..)) (by simp)
 | cons x l ih =>
  intro m hl hm h
  rw [List.nodup_cons] at hl
  have hx : x ∈ m := (h x).1 (List.mem_cons_self ..)
  have hp := List.perm_cons_erase hx
  refine (List.Perm.cons x (ih hl.2 (hm.erase x) fun y => ?_)).trans hp.symm
  constructor
  ·intro hy
   have hne : y ≠ x := fun e => hl.1 (e ▸ hy)
   exact (List.mem_erase_of_ne hne).2 ((h y).1 (List.mem_cons_of_mem _ hy))
  intro hy
  have hne : y ≠ x := fun e => by subst e; exact (hm.not_mem_erase) hy
  rcases List.mem_cons.1 ((h y).2 ((List.mem_erase_of_ne hne).1 hy)) with e | e
  ·exact absurd e hne
  exact e
theorem Vis.perm [DecidableEq κ] [DecidableEq α] (h : Vis f vis) (hall : ∀ k a, f k = some a → (k, a) ∈ vis) (h' : Vis f M) (hall' : ∀ k a, f k = some a → (k, a) ∈ M) : vis.Perm M :=
 perm_of_mem (nodup_of_keys h.nd) (nodup_of_keys h'.nd) fun p => ⟨fun hp => hall' _ _ (h.of p hp), fun hp => hall _ _ (h'.of p hp)⟩
end
section
variable {P : Program} {b : Frame} {cs : List Frame} {fin : Machine → Prop} {n : Nat} {all : Array Oper} {rest : List Oper} {k : List Item} {ρ : Env} {ds : List Deferred} {w w' : World}
 {d' : Option Nat} {ty : TypeId} {pos : String} {af : Array Edge} {g : Option (Nat × Bool)} {v : Value}
theorem l_callP {F : Operand} {as : List Operand} {ts : Array TypeId} {f : FuncId} (first cap vals : List Value) {R Q : Value → World → Prop} (hg : gOk all n ρ g = true)
  (hF : ev n ρ F = .func (.func f) first.toArray cap.toArray) (he : ∀ args w, (callFunc f args).run P w = .ok (.enter f args) w) (ha : first ++ as.map (ev n ρ) ++ cap = vals)
  (hc : Cp P f vals.toArray w R Q) (h : ∀ v w', R v w' → RunL P b cs fin n all rest k (updO d' v ρ) ds w') (hp : ∀ v w' k', Q v w' → LeaveU P b cs fin n k' ρ ds (.panicking [pentry v]) w') :
  RunL P b cs fin n all (⟨d', .call ⟨.value F, as.toArray, ts⟩, ty, pos, af, g⟩ :: rest) k ρ ds w :=
 l_enterP hg nofun (run_call hF he ha) hc h hp
end
section
variable {P : Program} {b : Frame} {cs : List Frame} {fin : Machine → Prop} {n : Nat} {k : List Item} {ρ : Env} {ds : List Deferred} {w : World} {X : Nat → Prop} {w0 : World} {L : List Rsc}
end
section
variable {P : Program} {b : Frame} {cs : List Frame} {fin : Machine → Prop} {n : Nat} {k : List Item} {ρ : Env} {ds : List Deferred} {w : World} {ops : Array Oper} {m : Nat} {Y : Nat → Prop} {listed listed' : Array Bool}
 {d : Nat} {ty : TypeId} {pos : String} {af : Array Edge} {g : Option (Nat × Bool)} {v : Value} {T : TypeId} {x z z' : Operand} {α : Type} {E : Elt α} {l : List α} {q : Int}
end
section
variable {P : Program} {b : Frame} {cs : List Frame} {fin : Machine → Prop} {n : Nat} {all : Array Oper} {rest : List Oper} {k : List Item} {ρ : Env} {ds : List Deferred} {w : World}
 {d : Nat} {ty : TypeId} {pos : String} {af : Array Edge} {g : Option (Nat × Bool)} {v : Value} {T T' e : TypeId} {x y : Operand} {α : Type} {E : Elt α} {l : List α}
theorem run_equal_slice {p : Option Addr} {m c : Nat} (hu : ∀ w, (underlying T).run P w = .ok (.slice e) w) : (Op.equal T (.slice p m c) (.slice none 0 0)).run P w = .ok p.isNone w := by
 unfold Op.equal
 obtain ⟨q, hq⟩ : ∃ q, Op.maxDepth = q + 1 := ⟨9999, rfl⟩
 rw [hq]
 simp only [Op.equalIn, Sem.run_bind, hu, Result.andThen_ok]
 cases p <;> rfl
theorem l_nilsl (hr : Rd E w v l) (hg : gOk all n ρ g = true) (hx : ev n ρ x = v) (hy : ev n ρ y = .slice none 0 0) (hu : ∀ w, (underlying T).run P w = .ok (.slice e) w)
  (h : ∀ t : Bool, (t = true → l = []) → RunL P b cs fin n all rest k (upd ρ d (.bool t)) ds w) : RunL P b cs fin n all (⟨some d, .binOp .eql T x y T', ty, pos, af, g⟩ :: rest) k ρ ds w := by
 obtain ⟨p, cap, rfl, hc, hrow⟩ := hr
 refine l_x hg (v := .bool p.isNone) ⟨nofun, fun _ _ _ _ => ?_⟩ (h _ fun ht => ?_)
 ·have he := run_equal_slice (P := P) (w := w) (p := p) (m := l.length) (c := cap) hu
  simp only [execOp, hx, hy, Sem.run_bind]
  rw [show (eqGuard .eql T x y (.slice p l.length cap) (.slice none 0 0)).run P w = .ok () w from rfl]
  simp only [Result.andThen_ok, binOp, Sem.run_bind, he, Sem.run_pure]
 cases l with
 | nil => rfl
 | cons a l =>
  obtain ⟨b', o', hp, _⟩ := hrow 0 a rfl
  rw [hp] at ht; cases ht
end
end Go.Vk

namespace Go.Vk.Deed
open Go Go.Vk
set_option linter.unusedSectionVars false

abbrev Rw := D × Hd × Hd
abbrev i64 (x : Int) : Value := .int .i64 x
def encD (a : Rw) : List Value := [i64 a.1.id, i64 a.1.day, i64 a.1.known, .int .u8 a.1.kind, i64 a.1.frm, i64 a.1.to, i64 a.1.parts, i64 a.1.stop, i64 a.1.of, hv a.2.1, hv a.2.2]
def deedE (T : TypeId) : Elt Rw where
 T := T
 sz := 11
 enc := encD
 zero := [i64 0, i64 0, i64 0, .int .u8 0, i64 0, i64 0, i64 0, i64 0, i64 0, .slice none 0 0, .slice none 0 0]
 len _ := rfl
 zlen := rfl
 one a x h := by simp [encD] at h; rcases h with h | h | h | h | h | h | h | h | h | h | h <;> subst h <;> rfl
 pos := by decide
def encLs (x : Ls) : List Value := [i64 x.deed, i64 x.frm, i64 x.to, i64 x.parts, i64 x.stop, i64 x.day]
def lsE (T : TypeId) : Elt Ls where
 T := T
 sz := 6
 enc := encLs
 zero := [i64 0, i64 0, i64 0, i64 0, i64 0, i64 0]
 len _ := rfl
 zlen := rfl
 one a x h := by simp [encLs] at h; rcases h with h | h | h | h | h | h <;> subst h <;> rfl
 pos := by decide
def encLz (x : Lz) : List Value := [i64 x.deed, i64 x.frm, i64 x.to, i64 x.parts, i64 x.stop]
def lzE (T : TypeId) : Elt Lz where
 T := T
 sz := 5
 enc := encLz
 zero := [i64 0, i64 0, i64 0, i64 0, i64 0]
 len _ := rfl
 zlen := rfl
 one a x h := by simp [encLz] at h; rcases h with h | h | h | h | h <;> subst h <;> rfl
 pos := by decide
def encPl (x : Pl) : List Value := [i64 x.deed, i64 x.frm, i64 x.to, i64 x.parts]
def plE (T : TypeId) : Elt Pl where
 T := T
 sz := 4
 enc := encPl
 zero := [i64 0, i64 0, i64 0, i64 0]
 len _ := rfl
 zlen := rfl
 one a x h := by simp [encPl] at h; rcases h with h | h | h | h <;> subst h <;> rfl
 pos := by decide
def encAc (x : Acc) : List Value := [i64 x.owner, i64 x.holds, i64 x.pledged, i64 x.out, i64 x.inn]
def acE (T : TypeId) : Elt Acc where
 T := T
 sz := 5
 enc := encAc
 zero := [i64 0, i64 0, i64 0, i64 0, i64 0]
 len _ := rfl
 zlen := rfl
 one a x h := by simp [encAc] at h; rcases h with h | h | h | h | h <;> subst h <;> rfl
 pos := by decide

structure SubR (TI : TypeId) (w : World) (a : Rw) : Prop where
 h : Rd (intE TI) w (hv a.2.1) a.1.heirs
 s : Rd (intE TI) w (hv a.2.2) a.1.shares
 hm : a.1.heirs.length ≤ 9223372036854775807
 sm : a.1.shares.length ≤ 9223372036854775807
structure DsR (TD TI : TypeId) (w : World) (v : Value) (rs : List Rw) : Prop where
 rd : Rd (deedE TD) w v rs
 sub : ∀ a ∈ rs, SubR TI w a
 lm : rs.length ≤ 9223372036854775807
def dl (rs : List Rw) : List D := rs.map (·.1)
section
variable {TD TI : TypeId} {w w' : World} {v : Value} {rs : List Rw} {a : Rw}
theorem SubR.le (h : SubR TI w a) (hk : Le w w') : SubR TI w' a := ⟨h.1.le hk, h.2.le hk, h.3, h.4⟩
theorem DsR.le (h : DsR TD TI w v rs) (hk : Le w w') : DsR TD TI w' v rs := ⟨h.rd.le hk, fun a ha => (h.sub a ha).le hk, h.lm⟩
end

theorem DsR.mem {TD TI : TypeId} {w w' : World} {v v' : Value} {rs rs' : List Rw} (h : DsR TD TI w v rs) (hk : Le w w') (h2 : Rd (deedE TD) w' v' rs') (hm : ∀ a ∈ rs', a ∈ rs) (hl : rs'.length ≤ 9223372036854775807) : DsR TD TI w' v' rs' :=
 ⟨h2, fun a ha => (h.sub a (hm a ha)).le hk, hl⟩
def dnest (TI : TypeId) (rs : List Rw) : List Rsc := rs.flatMap fun a => [vec (intE TI) (hv a.2.1) a.1.heirs, vec (intE TI) (hv a.2.2) a.1.shares]
def plV (p : Pl) : Value := .agg (encPl p).toArray
def mV (m : Nat) : Value := .map (some m)
structure Nm where
 h : Nat
 p : Nat
 s : Nat
 lv : Value
 iv : Value
 ms : List (Int × Nat)
def Nm.inn (n : Nm) (o : Int) : Option Nat := (n.ms.find? fun q => decide (q.1 = o)).map (·.2)
structure Tys where
 roll : TypeId
 lease : TypeId
 int : TypeId
def rollC (n : Nm) : List Value := [.map (some n.h), n.lv, .map (some n.p), n.iv, .map (some n.s)]
abbrev innR (n : Nm) (f : Int → Int → Option Int) : List Rsc := n.ms.map fun q => mapr kInt kInt q.2 (f q.1)
abbrev rollL (t : Tys) (b : Nat) (n : Nm) (hs : Int → Option Int) (ls : List Ls) (pf : Int → Option Pl) (is : List Int) (sf : Int → Int → Option Int) : List Rsc :=
 [blk b (rollC n) t.roll, mapr kInt kInt n.h hs, vec (lsE t.lease) n.lv ls, mapr kInt plV n.p pf, vec (intE t.int) n.iv is, mapr kInt mV n.s n.inn, pack (innR n sf)]
structure RollOk (n : Nm) (s : St) (hs : Int → Option Int) (pf : Int → Option Pl) (sf : Int → Int → Option Int) : Prop where
 h : ∀ o, (hs o).getD 0 = s.holds o
 own : ∀ o a, hs o = some a → 1 ≤ o ∧ o ≤ 40
 p : ∀ k, pf k = plOf s k
 s : ∀ o i, (sf o i).getD 0 = s.src o i
 ids : ∀ o i a, sf o i = some a → 1 ≤ i ∧ i ≤ 400
 none : ∀ o, n.inn o = none → ∀ i, sf o i = none
 nd : (n.ms.map (·.1)).Nodup
def rollF (t : Tys) (b : Nat) (n : Nm) : Nat → Prop := (pack (rollL t b n mnil [] mnil [] fun _ => mnil)).fp
theorem roll_fp {t : Tys} {b : Nat} {n : Nm} {hs : Int → Option Int} {ls : List Ls} {pf : Int → Option Pl} {is : List Int} {sf : Int → Int → Option Int} (c : Nat) : (pack (rollL t b n hs ls pf is sf)).fp c ↔ rollF t b n c := by
 simp only [rollF, pack, rollL, innR, List.mem_cons, List.not_mem_nil, or_false, exists_eq_or_imp, exists_eq_left, List.mem_map, blk, mapr, vec]
 constructor <;> rintro (h | h | h | h | h | h | ⟨r, ⟨q, hq, rfl⟩, h⟩)
 all_goals first
  | exact .inl h
  | exact .inr (.inl h)
  | exact .inr (.inr (.inl h))
  | exact .inr (.inr (.inr (.inl h)))
  | exact .inr (.inr (.inr (.inr (.inl h))))
  | exact .inr (.inr (.inr (.inr (.inr (.inl h)))))
  | exact .inr (.inr (.inr (.inr (.inr (.inr ⟨_, ⟨q, hq, rfl⟩, h⟩)))))
def rollS (t : Tys) (b : Nat) (n : Nm) (s : St) : Rsc where
 fp := rollF t b n
 ok := fun w => ∃ hs pf sf, RollOk n s hs pf sf ∧ (pack (rollL t b n hs s.leases pf s.idle sf)).ok w
 st := by
  rintro w w' hk ⟨hs, pf, sf, h1, h2⟩
  exact ⟨hs, pf, sf, h1, (pack _).st (fun c hc => hk c ((roll_fp c).1 hc)) h2⟩
section
variable {t : Tys} {b : Nat} {n n' : Nm} {s s' : St} {X : Nat → Prop} {w0 w w' : World} {A : List Rsc} {hs : Int → Option Int} {pf : Int → Option Pl} {sf : Int → Int → Option Int} {ls : List Ls} {is : List Int}
structure RollRO (t : Tys) (b : Nat) (n : Nm) (s : St) (hs : Int → Option Int) (pf : Int → Option Pl) (sf : Int → Int → Option Int) (w : World) : Prop where
 ok : RollOk n s hs pf sf
 ro : RO (pack (rollL t b n hs s.leases pf s.idle sf)) w
theorem RollRO.of (h : RO (rollS t b n s) w) : ∃ hs pf sf, RollRO t b n s hs pf sf w := by
 obtain ⟨hs, pf, sf, h1, h2⟩ := h.ok
 exact ⟨hs, pf, sf, h1, h2, fun c hc => h.bd c ((roll_fp c).1 hc)⟩
theorem RollRO.le (h : RollRO t b n s hs pf sf w) (hk : Le w w') : RollRO t b n s hs pf sf w' := ⟨h.ok, h.ro.le hk⟩
theorem RollRO.blk (h : RollRO t b n s hs pf sf w) : Blk w b (rollC n) t.roll := (h.ro.at 0 rfl).ok
theorem RollRO.hm (h : RollRO t b n s hs pf sf w) : (mapr kInt kInt n.h hs).ok w := (h.ro.at 1 rfl).ok
theorem RollRO.lm (h : RollRO t b n s hs pf sf w) : Rd (lsE t.lease) w n.lv s.leases := vec_rd (h.ro.at 2 rfl).ok
theorem RollRO.sm (h : RollRO t b n s hs pf sf w) : (mapr kInt mV n.s n.inn).ok w := (h.ro.at 5 rfl).ok
end
end Go.Vk.Deed

namespace Go.Vk.Deed
open Go Go.Vk Go.Vk.Flow

theorem own_iff {n : Int} : own n = true ↔ 1 ≤ n ∧ n ≤ 40 := by simp [own, rng]
theorem rng_iff {n a b : Int} : rng n a b = true ↔ a ≤ n ∧ n ≤ b := by simp [rng]
def zeroB (x : D) : Bool := decide (x.day = 0 ∧ x.frm = 0 ∧ x.to = 0 ∧ x.parts = 0 ∧ x.stop = 0 ∧ x.of = 0 ∧ x.heirs.length = 0 ∧ x.shares.length = 0)
def bareD (x : D) : D := { x with id := 0, known := 0, day := 0, kind := 0 }
def headB (x : D) : Bool := rng x.id 1 400 && rng x.known 0 100000 && rng x.day 0 100000
def twoB (x : D) : Bool := own x.frm && own x.to && decide (x.frm ≠ x.to)
section
variable {x : D}
theorem formed0 (h1 : x.kind ≠ 1) (h2 : x.kind ≠ 2) (h3 : x.kind ≠ 3) (h4 : x.kind ≠ 4) (h5 : x.kind ≠ 5) (h6 : x.kind ≠ 6) (h7 : x.kind ≠ 7) (h8 : x.kind ≠ 8) : formed x = false := by
 simp [formed, kindB, h1, h2, h3, h4, h5, h6, h7, h8]
end
def setM (l : List Int) : Int → Option Bool := fun k => if k ∈ l then some true else none
theorem sumI_snoc {l : List Int} {x : Int} : sumI (l ++ [x]) = sumI l + x := by simp [sumI, List.foldl_append]
theorem sumI_cons {l : List Int} {x : Int} : sumI (x :: l) = x + sumI l := by
 have key : ∀ (l : List Int) (a : Int), l.foldl (· + ·) a = a + sumI l := by
  intro l
  induction l with
  | nil => intro a; simp [sumI]
  | cons y l ih => intro a; simp only [sumI, List.foldl_cons]; rw [ih, ih (0 + y)]; omega
 simp only [sumI, List.foldl_cons]; rw [key]; simp only [sumI]; omega
theorem sumI_bd : ∀ {l : List Int} {B : Int}, (∀ x ∈ l, 0 ≤ x ∧ x ≤ B) → 0 ≤ sumI l ∧ sumI l ≤ B * l.length := by
 intro l
 induction l with
 | nil => intro B _; simp [sumI]
 | cons x l ih =>
  intro B h
  have h1 := h x (List.mem_cons_self ..)
  have h2 := ih fun y hy => h y (List.mem_cons_of_mem _ hy)
  rw [sumI_cons, List.length_cons, Int.natCast_add, Int.mul_add]
  simp only [Int.natCast_one, Int.mul_one]
  omega
section
variable {l : List D} {x y : D} {i : Nat}
theorem formed_parts (h : formed x = true) (k : x.kind = 1) : 1 ≤ x.parts ∧ x.parts ≤ 1000000000 := by
 simp [formed, kindB, k, rng] at h
 omega
theorem enters_bd (h : ∀ y ∈ l, formed y = true) : 0 ≤ enters l ∧ enters l ≤ 1000000000 * l.length := by
 have h1 := sumI_bd (l := l.map fun x => if x.kind = 1 then x.parts else 0) (B := 1000000000) fun z hz => by
  obtain ⟨y, hy, rfl⟩ := List.mem_map.1 hz
  split
  ·have := formed_parts (h y hy) (by assumption); omega
  omega
 rwa [List.length_map] at h1
end
end Go.Vk.Deed

namespace Go.Vk.Mark
open Go Go.Vk
open Go.Vk.Deed (rng rng_iff owners sumI)

structure Sg where
 a0 : Int
 a1 : Int
 a2 : Int
 a3 : Int
 a4 : Int
 a5 : Int
deriving DecidableEq
def Sg.l (s : Sg) : List Int := [s.a0, s.a1, s.a2, s.a3, s.a4, s.a5]
def Sg.get (s : Sg) (i : Nat) : Int := s.l.getD i 0
structure Mk where
 owner : Int
 frm : Int
 til : Int
 s : Sg
deriving DecidableEq
structure Fde where
 sign : Int
 seen : Int
deriving DecidableEq
structure Sm where
 marks : List Mk
 fades : List Fde
structure Clm where
 owner : Int
 number : Int
deriving DecidableEq
abbrev Pr := Int × Int

def clearB (s : Sg) : Bool := s.l.all fun x => decide (x ≤ 4)
def sightB (s : Sg) : Bool := s.l.all fun x => decide (x ≤ 4 ∨ x = 9)
def ownB (n : Int) : Bool := rng n 1 40
def dayB (n : Int) : Bool := rng n 0 100000
def markB (m : Mk) : Bool := ownB m.owner && decide (0 ≤ m.frm ∧ m.frm ≤ m.til ∧ m.til ≤ 100000) && clearB m.s
def fadeB (x : Fde) : Bool := rng x.sign 1 4 && decide (x.seen ≤ 4 ∧ x.seen ≠ x.sign)
def twiceB {α : Type} (c : α → α → Bool) (l : List α) : Bool := (List.range l.length).any fun i => match l[i]? with
 | some a => (l.take i).any (c a)
 | none => false
def clash (x y : Mk) : Bool := decide (x.frm ≤ y.til ∧ y.frm ≤ x.til ∧ (x.owner = y.owner ∨ x.s = y.s))
def checkS (b : Sm) : Int :=
 if 100 < b.marks.length ∨ 20 < b.fades.length then 2
 else if ¬ (b.marks.all markB = true ∧ b.fades.all fadeB = true) then 1
 else if twiceB (fun x y : Fde => decide (x = y)) b.fades = true ∨ twiceB clash b.marks = true then 6
 else 0
def openE (b : Sm) (day : Int) (right : Bool) : Int := if checkS b ≠ 0 then checkS b else if dayB day = true ∧ right = true then 0 else 1
def onDay (day : Int) (m : Mk) : Bool := rng day m.frm m.til
def markOf (b : Sm) (day o : Int) : Option Mk := b.marks.find? fun m => decide (m.owner = o) && onDay day m
def force (b : Sm) (day : Int) : List Mk := owners.filterMap (markOf b day)
def fadesTo (b : Sm) (x v : Int) : Bool := b.fades.any fun f => decide (f.sign = x ∧ f.seen = v)
def mayB (b : Sm) (p : Nat) (x v : Int) : Bool := decide (v = 9 ∨ v = x) || (decide (2 ≤ p) && fadesTo b x v)
def shows (b : Sm) (s t : Sg) : Bool := (List.range 6).all fun p => mayB b p (s.get p) (t.get p)
def fitsO (b : Sm) (day : Int) (t : Sg) (o : Int) : Bool := match markOf b day o with
 | some m => shows b m.s t
 | none => false
def ownersOf (b : Sm) (day : Int) (t : Sg) : List Int := owners.filter (fitsO b day t)
def common (b : Sm) (p : Nat) (x y : Int) : Option Int := [0, 1, 2, 3, 4].find? fun v => mayB b p x v && mayB b p y v
def Sg.of (f : Nat → Int) : Sg := ⟨f 0, f 1, f 2, f 3, f 4, f 5⟩
def commonAt (b : Sm) (x y : Sg) (p : Nat) : Option Int := common b p (x.get p) (y.get p)
def alike (b : Sm) (x y : Sg) : Option Sg := if (List.range 6).all (fun p => (commonAt b x y p).isSome) = true then some (Sg.of fun p => (commonAt b x y p).getD 0) else none
def inForce (b : Sm) (day : Int) : Int × List Mk := if openE b day true = 0 then (0, force b day) else (openE b day true, [])
def mistaken (b : Sm) (day : Int) : List Pr := (List.range (force b day).length).flatMap fun i => match (force b day)[i]? with
 | some m => (((force b day).drop (i + 1)).filter fun n => (alike b m.s n.s).isSome).map fun n => (m.owner, n.owner)
 | none => []
def apart (b : Sm) (x y : Sg) : Int := (((List.range 6).filter fun p => (commonAt b x y p).isNone).length : Nat)
def sgOf (n : Nat) : Sg := ⟨(n / 3125 % 5 : Nat), (n / 625 % 5 : Nat), (n / 125 % 5 : Nat), (n / 25 % 5 : Nat), (n / 5 % 5 : Nat), (n % 5 : Nat)⟩
def freeB (b : Sm) (day : Int) (s : Sg) : Bool := (force b day).all fun m => (alike b s m.s).isNone
def freeN (b : Sm) (day : Int) : Option Nat := (List.range 15625).find? fun n => freeB b day (sgOf n)

def foundE (l : List Sg) : Int := if 60 < l.length then 2 else if l.all sightB = true then 0 else 1
def claimE (l : List Clm) : Int :=
 if 10 < l.length then 2
 else if l.all (fun c => ownB c.owner && rng c.number 0 60) = false then 1
 else if twiceB (fun a b : Clm => decide (a.owner = b.owner)) l = true then 6
 else 0
def fstE (a b : Int) : Int := if a = 0 then b else a
def beginE (b : Sm) (day : Int) (right : Bool) (found : List Sg) (cs : List Clm) : Int := fstE (openE b day right) (fstE (foundE found) (claimE cs))
def sureN (b : Sm) (day : Int) (found : List Sg) (o : Int) : Int := ((found.filter fun t => fitsO b day t o && decide ((ownersOf b day t).length = 1)).length : Nat)
def perhapsN (b : Sm) (day : Int) (found : List Sg) (o : Int) : Int := ((found.filter fun t => fitsO b day t o && decide ((ownersOf b day t).length ≠ 1)).length : Nat)
def lessL : List Int → List Int → Bool
 | x :: a, y :: b => if x = y then lessL a b else decide (x < y)
 | _, _ => false
def less (a b : List Int) : Bool := if a.length ≠ b.length then decide (a.length < b.length) else lessL a b
abbrev Gr := List Int × Int
def insG (l : List Int) : List Gr → List Gr
 | [] => [(l, 1)]
 | g :: gs => if less g.1 l = true then g :: insG l gs else if less l g.1 = true then (l, 1) :: g :: gs else (g.1, g.2 + 1) :: gs
def groups (b : Sm) (day : Int) (found : List Sg) : List Gr := found.foldl (fun gs t => insG (ownersOf b day t) gs) []

abbrev Fs := List (Int → Bool)
def inSet (s k : Nat) : Bool := s.testBit k
def needN (cs : List Clm) (s : Nat) : Int := sumI ((List.range cs.length).map fun k => if inSet s k = true then (cs[k]?.map (·.number)).getD 0 else 0)
def anyIn (cs : List Clm) (s : Nat) (f : Int → Bool) : Bool := (List.range cs.length).any fun k => inSet s k && ((cs[k]?.map fun c => f c.owner).getD false)
def coverN (F : Fs) (cs : List Clm) (s : Nat) : Int := ((F.filter (anyIn cs s)).length : Nat)
def shortB (F : Fs) (cs : List Clm) (s : Nat) : Bool := decide (coverN F cs s < needN cs s)
def metB (F : Fs) (cs : List Clm) : Bool := (List.range (2 ^ cs.length)).all fun s => !shortB F cs s
def lessC (cs : List Clm) (o : Int) : List Clm := cs.map fun c => if c.owner = o then ⟨c.owner, c.number - 1⟩ else c
def numOf (cs : List Clm) (o : Int) : Option Int := (cs.find? fun c => decide (c.owner = o)).map (·.number)
def mayGive (f : Int → Bool) (F : Fs) (cs : List Clm) (o : Int) : Bool := match numOf cs o with
 | some n => decide (0 < n) && f o && metB F (lessC cs o)
 | none => false
def pickO (f : Int → Bool) (F : Fs) (cs : List Clm) : Int := if metB F cs = true then 0 else ((owners.find? (mayGive f F cs)).getD 0)
def assignS : Fs → List Clm → List Int
 | [], _ => []
 | f :: F, cs => pickO f F cs :: assignS F (if pickO f F cs = 0 then cs else lessC cs (pickO f F cs))
def listOf (cs : List Clm) (s : Nat) : List Int := owners.filter fun o => (List.range cs.length).any fun k => inSet s k && ((cs[k]?.map fun c => decide (c.owner = o)).getD false)
def fs (b : Sm) (day : Int) (found : List Sg) : Fs := found.map fun t o => fitsO b day t o
end Go.Vk.Mark
namespace Go.Vk.Mark
open Go Go.Vk
section
variable {α : Type} {c : α → α → Bool} {l : List α} {i : Nat} {a : α}
theorem twice_iff : twiceB c l = true ↔ ∃ i a, l[i]? = some a ∧ (l.take i).any (c a) = true := by
 unfold twiceB
 rw [List.any_eq_true]
 constructor
 ·rintro ⟨i, hi, h⟩
  have hl := List.mem_range.1 hi
  rw [List.getElem?_eq_getElem hl] at h
  exact ⟨i, _, List.getElem?_eq_getElem hl, h⟩
 rintro ⟨i, a, ha, h⟩
 exact ⟨i, List.mem_range.2 (List.getElem?_eq_some_iff.1 ha).1, by rw [ha]; exact h⟩
theorem twice_at (ha : l[i]? = some a) (h : (l.take i).any (c a) = true) : twiceB c l = true := twice_iff.2 ⟨i, a, ha, h⟩
theorem twice_step (h : twiceB c (l.take i) = false) (ha : l[i]? = some a) (hn : (l.take i).any (c a) = false) : twiceB c (l.take (i + 1)) = false := by
 refine Bool.eq_false_iff.2 fun g => ?_
 obtain ⟨j, x, hx, hj⟩ := twice_iff.1 g
 have hji : j < i + 1 := by
  rw [List.getElem?_take] at hx
  split at hx
  ·assumption
  cases hx
 rw [List.getElem?_take, if_pos hji] at hx
 rw [List.take_take, Nat.min_eq_left (by omega)] at hj
 by_cases e : j = i
 ·subst e; rw [ha] at hx; cases hx; rw [hn] at hj; cases hj
 refine Bool.eq_false_iff.1 h (twice_iff.2 ⟨j, x, by rw [List.getElem?_take, if_pos (by omega)]; exact hx, ?_⟩)
 rw [List.take_take, Nat.min_eq_left (by omega)]; exact hj
end
end Go.Vk.Mark
namespace Go.Vk.Mark
section
variable {b : Sm}
theorem checkS_2 (h : 100 < b.marks.length ∨ 20 < b.fades.length) : 2 = checkS b := by rw [checkS, if_pos h]
theorem checkS_1 (h : ¬ (100 < b.marks.length ∨ 20 < b.fades.length)) (g : b.marks.all markB = false ∨ b.fades.all fadeB = false) : 1 = checkS b := by
 rw [checkS, if_neg h, if_pos]
 rintro ⟨h1, h2⟩
 rcases g with g | g
 ·rw [h1] at g; cases g
 rw [h2] at g; cases g
theorem checkS_6 (h : ¬ (100 < b.marks.length ∨ 20 < b.fades.length)) (g : b.marks.all markB = true) (g2 : b.fades.all fadeB = true) (t : twiceB (fun x y : Fde => decide (x = y)) b.fades = true ∨ twiceB clash b.marks = true) : 6 = checkS b := by
 rw [checkS, if_neg h, if_neg (fun k => k ⟨g, g2⟩), if_pos t]
theorem checkS_0 (h : ¬ (100 < b.marks.length ∨ 20 < b.fades.length)) (g : b.marks.all markB = true) (g2 : b.fades.all fadeB = true) (t1 : twiceB (fun x y : Fde => decide (x = y)) b.fades = false) (t2 : twiceB clash b.marks = false) : 0 = checkS b := by
 rw [checkS, if_neg h, if_neg (fun k => k ⟨g, g2⟩), if_neg (by rw [t1, t2]; simp)]
theorem check_valid (h : checkS b = 0) : (b.marks.length ≤ 100 ∧ b.fades.length ≤ 20) ∧ (∀ m ∈ b.marks, markB m = true) ∧ (∀ x ∈ b.fades, fadeB x = true) ∧ twiceB (fun x y : Fde => decide (x = y)) b.fades = false ∧ twiceB clash b.marks = false := by
 unfold checkS at h
 split at h
 ·cases h
 split at h
 ·cases h
 split at h
 ·cases h
 next h1 h2 h3 =>
 have h2 := Classical.not_not.1 h2
 refine ⟨by omega, List.all_eq_true.1 h2.1, List.all_eq_true.1 h2.2, ?_, ?_⟩
 ·cases e : twiceB (fun x y : Fde => decide (x = y)) b.fades
  ·rfl
  exact absurd (.inl e) h3
 cases e : twiceB clash b.marks
 ·rfl
 exact absurd (.inr e) h3
end
end Go.Vk.Mark

namespace Go.Vk
open Go
section
variable {P : Program} {E : Operand → Value} {w : World} {ty T T' : TypeId} {x y : Operand}
end

section
variable {P : Program} {b : Frame} {cs : List Frame} {fin : Machine → Prop} {n : Nat} {k : List Item} {ρ : Env} {ds : List Deferred} {w : World} {ops : Array Oper} {m : Nat} {Y : Nat → Prop} {listed listed' : Array Bool}
 {d : Nat} {ty : TypeId} {pos : String} {af : Array Edge} {g : Option (Nat × Bool)} {v : Value} {T : TypeId} {x z : Operand} {α : Type} {E : Elt α} {l : List α} {q : Int}
end
end Go.Vk

namespace Go.Vk
open Go
section
variable {P : Program} {E : Operand → Value} {w : World} {ty T T' : TypeId} {x y : Operand} {a c : Int} {v : Value}
end
abbrev kStr (s : ByteArray) : Value := .string s
end Go.Vk

namespace Go.Vk
open Go
def lessBits (a b : Nat) : Nat := a ^^^ (a &&& b)
theorem lessBits_bit {a b i : Nat} : (lessBits a b).testBit i = (a.testBit i && !b.testBit i) := by
 unfold lessBits; rw [Nat.testBit_xor, Nat.testBit_and]; cases a.testBit i <;> cases b.testBit i <;> rfl
theorem wrap_nat {k : IntKind} {a : Nat} (h : a < 2 ^ (k.bits - 1)) : k.wrap (a : Int) = a := by
 have h1 : (a : Int) < (2 : Int) ^ (k.bits - 1) := by exact_mod_cast h
 have h2 : (2 : Nat) ^ (k.bits - 1) ≤ 2 ^ k.bits := Nat.pow_le_pow_right (by omega) (by omega)
 have h3 : (a : Int) % (2 : Int) ^ k.bits = a := Int.emod_eq_of_lt (by omega) (by exact_mod_cast Nat.lt_of_lt_of_le h h2)
 unfold IntKind.wrap
 simp only [h3]
 rw [if_neg]
 simp only [Bool.and_eq_true, decide_eq_true_eq, not_and]
 intro _; omega
theorem bv_nat {n a : Nat} (h : a < 2 ^ n) : (BitVec.ofInt n (a : Int)).toNat = a := by
 rw [BitVec.toNat_ofInt]
 have : (a : Int) % ((2 ^ n : Nat) : Int) = a := Int.emod_eq_of_lt (by omega) (by exact_mod_cast h)
 rw [this]; rfl
section
variable {P : Program} {E : Operand → Value} {w : World} {ty T T' : TypeId} {x y : Operand} {k yk : IntKind} {a c n : Nat}
theorem bits_lt (h : a < 2 ^ (k.bits - 1)) : a < 2 ^ k.bits := Nat.lt_of_lt_of_le h (Nat.pow_le_pow_right (by omega) (by omega))
theorem x_shl (hx : E x = .int k (a : Int)) (hy : E y = .int yk (n : Int)) (hn : n ≤ k.bits) (hb : a * 2 ^ n < 2 ^ (k.bits - 1)) : X P E (.binOp .shl T x y T') ty w (.int k ((a * 2 ^ n : Nat) : Int)) w := by
 refine ⟨nofun, fun _ _ _ _ => ?_⟩
 have h1 : ¬ ((n : Int) < 0) := by omega
 have h2 : min ((n : Int)).toNat k.bits = n := by rw [Int.toNat_natCast]; exact Nat.min_eq_left hn
 have h3 : k.wrap ((a : Int) * 2 ^ n) = ((a * 2 ^ n : Nat) : Int) := by
  have := wrap_nat hb
  rw [← this]; congr 1
 have h4 : Op.shift .shl k (a : Int) yk (n : Int) = pure (.int k ((a * 2 ^ n : Nat) : Int)) := by
  unfold Op.shift
  rw [if_neg h1]
  simp only [h2, h3]
 simp [execOp, hx, hy, binOp, eqGuard, h4, go_sem]
theorem x_shr (hx : E x = .int k (a : Int)) (hy : E y = .int yk (n : Int)) (hn : n ≤ k.bits) : X P E (.binOp .shr T x y T') ty w (.int k ((a / 2 ^ n : Nat) : Int)) w := by
 refine ⟨nofun, fun _ _ _ _ => ?_⟩
 have h1 : ¬ ((n : Int) < 0) := by omega
 have h2 : min ((n : Int)).toNat k.bits = n := by rw [Int.toNat_natCast]; exact Nat.min_eq_left hn
 have h3 : Int.fdiv (a : Int) (2 ^ n) = ((a / 2 ^ n : Nat) : Int) := by
  rw [Int.fdiv_eq_ediv_of_nonneg _ (Int.pow_nonneg (by omega))]; push_cast; first | done | rfl
 have h4 : Op.shift .shr k (a : Int) yk (n : Int) = pure (.int k ((a / 2 ^ n : Nat) : Int)) := by
  unfold Op.shift
  rw [if_neg h1]
  simp only [h2, h3]
 simp [execOp, hx, hy, binOp, eqGuard, h4, go_sem]
theorem x_and (hx : E x = .int k (a : Int)) (hy : E y = .int k (c : Int)) (ha : a < 2 ^ (k.bits - 1)) (hc : c < 2 ^ (k.bits - 1)) : X P E (.binOp .and T x y T') ty w (.int k ((a &&& c : Nat) : Int)) w := by
 refine ⟨nofun, fun _ _ _ _ => ?_⟩
 have h3 : k.wrap ((BitVec.ofInt k.bits (a : Int) &&& BitVec.ofInt k.bits (c : Int)).toNat : Int) = ((a &&& c : Nat) : Int) := by
  rw [BitVec.toNat_and, bv_nat (bits_lt ha), bv_nat (bits_lt hc)]
  exact wrap_nat (Nat.and_lt_two_pow _ hc)
 have h4 : Op.intBits .and k (a : Int) (c : Int) = pure (.int k ((a &&& c : Nat) : Int)) := by
  unfold Op.intBits
  simp only [h3]
 simp [execOp, hx, hy, binOp, eqGuard, h4, go_sem]
theorem x_or (hx : E x = .int k (a : Int)) (hy : E y = .int k (c : Int)) (ha : a < 2 ^ (k.bits - 1)) (hc : c < 2 ^ (k.bits - 1)) : X P E (.binOp .or T x y T') ty w (.int k ((a ||| c : Nat) : Int)) w := by
 refine ⟨nofun, fun _ _ _ _ => ?_⟩
 have h3 : k.wrap ((BitVec.ofInt k.bits (a : Int) ||| BitVec.ofInt k.bits (c : Int)).toNat : Int) = ((a ||| c : Nat) : Int) := by
  rw [BitVec.toNat_or, bv_nat (bits_lt ha), bv_nat (bits_lt hc)]
  exact wrap_nat (Nat.or_lt_two_pow ha hc)
 have h4 : Op.intBits .or k (a : Int) (c : Int) = pure (.int k ((a ||| c : Nat) : Int)) := by
  unfold Op.intBits
  simp only [h3]
 simp [execOp, hx, hy, binOp, eqGuard, h4, go_sem]
theorem x_andNot (hx : E x = .int k (a : Int)) (hy : E y = .int k (c : Int)) (ha : a < 2 ^ (k.bits - 1)) (hc : c < 2 ^ (k.bits - 1)) : X P E (.binOp .andNot T x y T') ty w (.int k ((lessBits a c : Nat) : Int)) w := by
 refine ⟨nofun, fun _ _ _ _ => ?_⟩
 have hl : lessBits a c < 2 ^ (k.bits - 1) := by unfold lessBits; exact Nat.xor_lt_two_pow ha (Nat.and_lt_two_pow _ hc)
 have h3 : k.wrap ((BitVec.ofInt k.bits (a : Int) &&& ~~~BitVec.ofInt k.bits (c : Int)).toNat : Int) = ((lessBits a c : Nat) : Int) := by
  have : (BitVec.ofInt k.bits (a : Int) &&& ~~~BitVec.ofInt k.bits (c : Int)).toNat = lessBits a c := by
   refine Nat.eq_of_testBit_eq fun i => ?_
   rw [lessBits_bit, BitVec.toNat_and, Nat.testBit_and, bv_nat (bits_lt ha), BitVec.toNat_not, bv_nat (bits_lt hc)]
   rw [show 2 ^ k.bits - 1 - c = 2 ^ k.bits - (c + 1) by omega, Nat.testBit_two_pow_sub_succ (bits_lt hc)]
   by_cases h : i < k.bits
   ·simp [h]
   have : a.testBit i = false := Nat.testBit_lt_two_pow (Nat.lt_of_lt_of_le (bits_lt ha) (Nat.pow_le_pow_right (by omega) (by omega)))
   simp [this]
  rw [this]; exact wrap_nat hl
 have h4 : Op.intBits .andNot k (a : Int) (c : Int) = pure (.int k ((lessBits a c : Nat) : Int)) := by
  unfold Op.intBits
  simp only [h3]
 simp [execOp, hx, hy, binOp, eqGuard, h4, go_sem]
end
theorem bit_and {s k : Nat} : ((s / 2 ^ k &&& 1 : Nat) : Int) = 1 ↔ s.testBit k = true := by
 rw [Nat.and_one_is_mod, Nat.testBit_eq_decide_div_mod_eq, decide_eq_true_iff]; omega
theorem bit_and0 {s k : Nat} : ((s / 2 ^ k &&& 1 : Nat) : Int) = 0 ↔ s.testBit k = false := by
 rw [Nat.and_one_is_mod, Nat.testBit_eq_decide_div_mod_eq, decide_eq_false_iff_not]; omega
end Go.Vk

namespace Go.Vk
open Go
section
variable {P : Program} {E : Operand → Value} {w : World} {ty T T' e : TypeId} {x y : Operand}
theorem x_idxstr {k : IntKind} {i : Int} {s : ByteArray} (hx : E x = .string s) (hy : E y = .int k i) (hu : ∀ w, (underlying T).run P w = .ok .string w) (hb : 0 ≤ i) (hl : i.toNat < s.size) :
  X P E (.index T x y) ty w (.int .u8 ((s.data.getD i.toNat 0).toNat : Int)) w := by
 refine ⟨nofun, fun _ _ _ _ => ?_⟩
 have h1 : s[i.toNat]? = some (s.data.getD i.toNat 0) := by
  rw [getElem?_pos s i.toNat hl]
  congr 1
  show s.data[i.toNat] = _
  rw [Array.getD_eq_getD_getElem?, Array.getElem?_eq_getElem hl]; rfl
 simp [execOp, hx, hy, Instr.index, asIntOf, hu, hb, h1, go_sem]
theorem x_eqnil {p : Option Addr} {m c : Nat} (hx : E x = .slice p m c) (hy : E y = .slice none 0 0) (hu : ∀ w, (underlying T).run P w = .ok (.slice e) w) : X P E (.binOp .eql T x y T') ty w (.bool p.isNone) w := by
 refine ⟨nofun, fun _ _ _ _ => ?_⟩
 have he := run_equal_slice (P := P) (w := w) (p := p) (m := m) (c := c) hu
 simp only [execOp, hx, hy, Sem.run_bind]
 rw [show (eqGuard .eql T x y (.slice p m c) (.slice none 0 0)).run P w = .ok () w from rfl]
 simp only [Result.andThen_ok, binOp, Sem.run_bind, he, Sem.run_pure]
theorem x_neqnil {p : Option Addr} {m c : Nat} (hx : E x = .slice p m c) (hy : E y = .slice none 0 0) (hu : ∀ w, (underlying T).run P w = .ok (.slice e) w) : X P E (.binOp .neq T x y T') ty w (.bool (!p.isNone)) w := by
 refine ⟨nofun, fun _ _ _ _ => ?_⟩
 have he := run_equal_slice (P := P) (w := w) (p := p) (m := m) (c := c) hu
 simp only [execOp, hx, hy, Sem.run_bind]
 rw [show (eqGuard .neq T x y (.slice p m c) (.slice none 0 0)).run P w = .ok () w from rfl]
 simp only [Result.andThen_ok, binOp, Sem.run_bind, he, Sem.run_pure]
end
theorem rd_form {α : Type} {E : Elt α} {w : World} {v : Value} {l : List α} (h : Rd E w v l) : ∃ p c, v = .slice p l.length c ∧ (l ≠ [] → p.isNone = false) := by
 obtain ⟨p, c, rfl, _, hrow⟩ := h
 refine ⟨p, c, rfl, fun hl => ?_⟩
 cases l with
 | nil => exact absurd rfl hl
 | cons a l =>
  obtain ⟨b', o', hp, _⟩ := hrow 0 a rfl
  rw [hp]; rfl
end Go.Vk

namespace Go.Vk.Mark
open Go Go.Vk
open Go.Vk.Deed (rng rng_iff owners sumI sumI_cons)

def numAt (cs : List Clm) (k : Nat) : Int := (cs[k]?.map (·.number)).getD 0
def ownAt (cs : List Clm) (k : Nat) : Option Int := cs[k]?.map (·.owner)
def fitAt (cs : List Clm) (f : Int → Bool) (k : Nat) : Bool := (cs[k]?.map fun c => f c.owner).getD false
def needH (cs : List Clm) (p : Nat → Bool) : Int := sumI ((List.range cs.length).map fun k => if p k = true then numAt cs k else 0)
def anyP (cs : List Clm) (p : Nat → Bool) (f : Int → Bool) : Bool := (List.range cs.length).any fun k => p k && fitAt cs f k
def coverP (F : Fs) (cs : List Clm) (p : Nat → Bool) : Int := ((F.filter (anyP cs p)).length : Nat)
def Met (F : Fs) (cs : List Clm) : Prop := ∀ p : Nat → Bool, needH cs p ≤ coverP F cs p

section
variable {F : Fs} {cs : List Clm} {p q : Nat → Bool} {f : Int → Bool} {k : Nat} {A : List Int}
theorem sum_congr {l : List Nat} {f g : Nat → Int} (h : ∀ k ∈ l, f k = g k) : sumI (l.map f) = sumI (l.map g) := by rw [List.map_congr_left h]
theorem sum_add {l : List Nat} {f g : Nat → Int} : sumI (l.map fun k => f k + g k) = sumI (l.map f) + sumI (l.map g) := by
 induction l with
 | nil => rfl
 | cons x l ih => simp only [List.map_cons, sumI_cons, ih]; omega
theorem sum_le {l : List Nat} {f g : Nat → Int} (h : ∀ k ∈ l, f k ≤ g k) : sumI (l.map f) ≤ sumI (l.map g) := by
 induction l with
 | nil => exact Int.le_refl _
 | cons x l ih =>
  have h1 := ih fun k hk => h k (List.mem_cons_of_mem _ hk)
  have h2 := h x (List.mem_cons_self ..)
  simp only [List.map_cons, sumI_cons]; omega
theorem need_mod (p q : Nat → Bool) : needH cs (fun k => p k || q k) + needH cs (fun k => p k && q k) = needH cs p + needH cs q := by
 unfold needH
 rw [← sum_add, ← sum_add]
 exact sum_congr fun k _ => by cases h1 : p k <;> cases h2 : q k <;> simp [h1, h2]
theorem any_iff : anyP cs p f = true ↔ ∃ k, k < cs.length ∧ p k = true ∧ fitAt cs f k = true := by
 unfold anyP
 rw [List.any_eq_true]
 constructor
 ·rintro ⟨k, hk, h⟩
  exact ⟨k, List.mem_range.1 hk, by simpa using h⟩
 rintro ⟨k, hk, h⟩
 exact ⟨k, List.mem_range.2 hk, by simpa using h⟩
theorem any_mono (h : ∀ k, k < cs.length → p k = true → q k = true) (g : anyP cs p f = true) : anyP cs q f = true := by
 obtain ⟨k, hk, hp, hf⟩ := any_iff.1 g
 exact any_iff.2 ⟨k, hk, h k hk hp, hf⟩
theorem cover_cons : coverP (f :: F) cs p = coverP F cs p + if anyP cs p f = true then 1 else 0 := by
 unfold coverP
 rw [List.filter_cons]
 split
 ·rw [List.length_cons]; omega
 omega
theorem cover_mono (h : ∀ k, k < cs.length → p k = true → q k = true) : coverP F cs p ≤ coverP F cs q := by
 induction F with
 | nil => exact Int.le_refl _
 | cons f F ih =>
  rw [cover_cons, cover_cons]
  by_cases g : anyP cs p f = true
  ·rw [if_pos g, if_pos (any_mono h g)]; omega
  rw [if_neg g]; split <;> omega
theorem cover_sub (p q : Nat → Bool) : coverP F cs (fun k => p k || q k) + coverP F cs (fun k => p k && q k) ≤ coverP F cs p + coverP F cs q := by
 induction F with
 | nil => exact Int.le_refl _
 | cons f F ih =>
  simp only [cover_cons]
  have h1 : anyP cs (fun k => p k || q k) f = true → anyP cs p f = true ∨ anyP cs q f = true := fun h => by
   obtain ⟨k, hk, hp, hf⟩ := any_iff.1 h
   rw [Bool.or_eq_true] at hp
   exact hp.imp (fun g => any_iff.2 ⟨k, hk, g, hf⟩) fun g => any_iff.2 ⟨k, hk, g, hf⟩
  have h2 : anyP cs (fun k => p k && q k) f = true → anyP cs p f = true ∧ anyP cs q f = true := fun h => by
   obtain ⟨k, hk, hp, hf⟩ := any_iff.1 h
   rw [Bool.and_eq_true] at hp
   exact ⟨any_iff.2 ⟨k, hk, hp.1, hf⟩, any_iff.2 ⟨k, hk, hp.2, hf⟩⟩
  by_cases a : anyP cs p f = true <;> by_cases b : anyP cs q f = true
  ·rw [if_pos a, if_pos b]; split <;> split <;> omega
  ·rw [if_pos a, if_neg b, if_neg (fun g => b (h2 g).2)]; split <;> omega
  ·rw [if_neg a, if_pos b, if_neg (fun g => a (h2 g).1)]; split <;> omega
  rw [if_neg a, if_neg b, if_neg (fun g => a (h2 g).1), if_neg (fun g => (h1 g).elim a b)]; omega
def card (n : Nat) (p : Nat → Bool) : Nat := ((List.range n).filter p).length
theorem card_lt {n : Nat} (h : ∀ k, k < n → q k = true → p k = true) (hk : k < n) (hp : p k = true) (hq : q k = false) : card n q < card n p := by
 have key : ∀ l : List Nat, (∀ k ∈ l, q k = true → p k = true) → (l.filter q).length ≤ (l.filter p).length := by
  intro l
  induction l with
  | nil => intro _; exact Nat.le_refl _
  | cons x l ih =>
   intro h
   have h1 := ih fun k hk => h k (List.mem_cons_of_mem _ hk)
   have h2 := h x (List.mem_cons_self ..)
   rw [List.filter_cons, List.filter_cons]
   by_cases g : q x = true
   ·rw [if_pos g, if_pos (h2 g)]; simp; omega
   rw [if_neg g]; split <;> simp <;> omega
 have key2 : ∀ l : List Nat, k ∈ l → (∀ k ∈ l, q k = true → p k = true) → (l.filter q).length < (l.filter p).length := by
  intro l
  induction l with
  | nil => intro h; cases h
  | cons x l ih =>
   intro hx h
   have h1 := key l fun k hk => h k (List.mem_cons_of_mem _ hk)
   have h2 := h x (List.mem_cons_self ..)
   rw [List.filter_cons, List.filter_cons]
   by_cases e : x = k
   ·subst e; rw [if_neg (by simp [hq]), if_pos hp]; simp; omega
   have h3 := ih ((List.mem_cons.1 hx).resolve_left (Ne.symm e)) fun k hk => h k (List.mem_cons_of_mem _ hk)
   by_cases g : q x = true
   ·rw [if_pos g, if_pos (h2 g)]; simp; omega
   rw [if_neg g]; split <;> simp <;> omega
 exact key2 _ (List.mem_range.2 hk) fun k hk => h k (List.mem_range.1 hk)
theorem least_lack (hm : ∀ p, -1 ≤ coverP F cs p - needH cs p) : ∀ (n : Nat) (p : Nat → Bool), card cs.length p ≤ n → coverP F cs p - needH cs p = -1 →
  ∃ s, coverP F cs s - needH cs s = -1 ∧ ∀ t, coverP F cs t - needH cs t = -1 → ∀ k, k < cs.length → s k = true → t k = true := by
 intro n
 induction n with
 | zero =>
  intro p hc hp
  refine ⟨p, hp, fun t _ k hk h => ?_⟩
  have := card_lt (p := p) (q := fun _ => false) (fun _ _ h => by cases h) hk h rfl
  omega
 | succ n ih =>
  intro p hc hp
  by_cases h : ∀ t, coverP F cs t - needH cs t = -1 → ∀ k, k < cs.length → p k = true → t k = true
  ·exact ⟨p, hp, h⟩
  have : ∃ t, coverP F cs t - needH cs t = -1 ∧ ∃ k, k < cs.length ∧ p k = true ∧ t k = false := by
   apply Classical.byContradiction
   intro hn
   refine h fun t ht k hk hpk => ?_
   cases e : t k with
   | true => rfl
   | false => exact absurd ⟨t, ht, k, hk, hpk, e⟩ hn
  obtain ⟨t, ht, k, hk, hpk, htk⟩ := this
  have h1 := need_mod (cs := cs) p t
  have h2 := cover_sub (F := F) (cs := cs) p t
  have h3 := hm fun k => p k || t k
  have h4 := hm fun k => p k && t k
  exact ih (fun k => p k && t k) (by
   have := card_lt (p := p) (q := fun k => p k && t k) (fun k _ h => by simp at h; exact h.1) hk hpk (by simp [htk])
   omega) (by omega)
def decAt (cs : List Clm) (k : Nat) : List Clm := match cs[k]? with
 | some c => cs.set k ⟨c.owner, c.number - 1⟩
 | none => cs
theorem dec_len : (decAt cs k).length = cs.length := by unfold decAt; split <;> simp
theorem dec_fit (j : Nat) : fitAt (decAt cs k) f j = fitAt cs f j := by
 unfold fitAt decAt
 cases h : cs[k]? with
 | none => rfl
 | some c =>
  simp only [List.getElem?_set]
  by_cases e : k = j
  ·subst e; rw [if_pos rfl, if_pos (List.getElem?_eq_some_iff.1 h).1, h]; rfl
  rw [if_neg e]
theorem dec_num (hk : k < cs.length) (j : Nat) : numAt (decAt cs k) j = numAt cs j - if j = k then 1 else 0 := by
 have h : cs[k]? = some cs[k] := List.getElem?_eq_getElem hk
 unfold numAt decAt
 rw [h]
 simp only [List.getElem?_set]
 by_cases e : k = j
 ·subst e; rw [if_pos rfl, if_pos hk, h]; simp
 rw [if_neg e, if_neg (Ne.symm e)]; simp
theorem dec_any : anyP (decAt cs k) p f = anyP cs p f := by
 unfold anyP; rw [dec_len]; exact congrArg _ (funext fun j => by rw [dec_fit])
theorem dec_cover : coverP F (decAt cs k) p = coverP F cs p := by
 unfold coverP
 rw [show anyP (decAt cs k) p = anyP cs p from funext fun f => dec_any]
theorem dec_need (hk : k < cs.length) : needH (decAt cs k) p = needH cs p - if p k = true then 1 else 0 := by
 unfold needH
 rw [dec_len]
 have key : ∀ n, n ≤ cs.length → sumI ((List.range n).map fun j => if p j = true then numAt (decAt cs k) j else 0) = sumI ((List.range n).map fun j => if p j = true then numAt cs j else 0) - if k < n ∧ p k = true then 1 else 0 := by
  intro n
  induction n with
  | zero => intro _; simp [sumI]
  | succ n ih =>
   intro hn
   have h1 := ih (by omega)
   rw [List.range_succ, List.map_append, List.map_append, List.map_singleton, List.map_singleton, Go.Vk.Deed.sumI_snoc, Go.Vk.Deed.sumI_snoc, h1, dec_num hk]
   by_cases e : n = k
   ·subst e
    by_cases g : p n = true
    ·simp [g]; omega
    simp [g]
   by_cases g : p n = true <;> by_cases g2 : p k = true <;> simp [g, g2, e] <;> (try split <;> (try split <;> omega))
   all_goals (try omega)
 rw [key _ (Nat.le_refl _)]
 simp [hk]
theorem hall_step (h : Met (f :: F) cs) : Met F cs ∨ ∃ k, k < cs.length ∧ fitAt cs f k = true ∧ 0 < numAt cs k ∧ Met F (decAt cs k) := by
 by_cases hF : Met F cs
 ·exact .inl hF
 right
 have hm : ∀ p, -1 ≤ coverP F cs p - needH cs p := fun p => by
  have h1 := h p
  rw [cover_cons] at h1
  split at h1 <;> omega
 obtain ⟨p, hp⟩ : ∃ p, ¬ needH cs p ≤ coverP F cs p := Classical.not_forall.1 hF
 have hp' := hm p
 obtain ⟨s, hs, hl⟩ := least_lack hm _ p (Nat.le_refl _) (by omega)
 have hfs : anyP cs s f = true := by
  have h1 := h s
  rw [cover_cons] at h1
  refine Decidable.byContradiction fun g => ?_
  rw [if_neg g] at h1
  omega
 obtain ⟨k, hk, hsk, hfk⟩ := any_iff.1 hfs
 refine ⟨k, hk, hfk, ?_, fun t => ?_⟩
 ·refine Decidable.byContradiction fun h0 => ?_
  -- without claim k as much is lacking
  have h1 : needH cs s ≤ needH cs (fun j => s j && decide (j ≠ k)) := by
   refine sum_le fun j _ => ?_
   by_cases e : j = k
   ·subst e; simp [hsk]; omega
   simp [e]
  have h2 : coverP F cs (fun j => s j && decide (j ≠ k)) ≤ coverP F cs s := cover_mono fun j _ g => by simp at g; exact g.1
  have h3 := hm fun j => s j && decide (j ≠ k)
  have := hl (fun j => s j && decide (j ≠ k)) (by omega) k hk hsk
  simp at this
 rw [dec_cover, dec_need hk]
 have h1 := hm t
 by_cases g : t k = true
 ·rw [if_pos g]; omega
 rw [if_neg g]
 refine Decidable.byContradiction fun g2 => ?_
 exact g (hl t (by omega) k hk hsk)
end
end Go.Vk.Mark
namespace Go.Vk.Mark
open Go Go.Vk
open Go.Vk.Deed (rng rng_iff owners sumI sumI_cons)
theorem bits_of (p : Nat → Bool) : ∀ n : Nat, ∃ s, s < 2 ^ n ∧ ∀ k, k < n → s.testBit k = p k := by
 intro n
 induction n with
 | zero => exact ⟨0, by simp, fun k hk => by omega⟩
 | succ n ih =>
  obtain ⟨s, hs, hb⟩ := ih
  by_cases g : p n = true
  ·refine ⟨2 ^ n + s, by rw [Nat.pow_succ]; omega, fun k hk => ?_⟩
   by_cases e : k = n
   ·subst e; rw [Nat.testBit_two_pow_add_eq, Nat.testBit_lt_two_pow hs, g]; rfl
   rw [Nat.testBit_two_pow_add_gt (by omega), hb k (by omega)]
  refine ⟨s, by rw [Nat.pow_succ]; omega, fun k hk => ?_⟩
  by_cases e : k = n
  ·subst e; rw [Nat.testBit_lt_two_pow hs]; simpa using g
  exact hb k (by omega)
section
variable {F : Fs} {cs : List Clm} {p q : Nat → Bool} {f : Int → Bool} {k s : Nat}
theorem need_congr (h : ∀ k, k < cs.length → p k = q k) : needH cs p = needH cs q := sum_congr fun k hk => by rw [h k (List.mem_range.1 hk)]
theorem cover_congr (h : ∀ k, k < cs.length → p k = q k) : coverP F cs p = coverP F cs q :=
 Int.le_antisymm (cover_mono fun k hk g => by rw [← h k hk]; exact g) (cover_mono fun k hk g => by rw [h k hk]; exact g)
theorem need_bits : needN cs s = needH cs s.testBit := rfl
theorem cover_bits : coverN F cs s = coverP F cs s.testBit := rfl
theorem met_iff : metB F cs = true ↔ Met F cs := by
 unfold metB
 rw [List.all_eq_true]
 constructor
 ·intro h p
  obtain ⟨s, hs, hb⟩ := bits_of p cs.length
  have h1 := h s (List.mem_range.2 hs)
  unfold shortB at h1
  rw [need_bits, cover_bits] at h1
  rw [← need_congr hb, ← cover_congr hb]
  simp at h1; exact h1
 intro h s _
 have := h s.testBit
 unfold shortB
 rw [need_bits, cover_bits]
 simp; exact this
end
end Go.Vk.Mark
