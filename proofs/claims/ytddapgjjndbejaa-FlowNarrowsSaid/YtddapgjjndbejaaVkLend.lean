/- The proof engine, part 11: what is lent to a call and comes back changed. Generic over the program. -/
import Derived.Test.YtddapgjjndbejaaVkTab
namespace Go.Vk
open Go

/-- Nothing. -/
def nilR : Rsc := ⟨nob, fun _ => True, fun _ h => h⟩

/-- Some resources as one. -/
def pack (L : List Rsc) : Rsc where
  fp := fun b => ∃ r ∈ L, r.fp b
  ok := fun w => (∀ r ∈ L, r.ok w) ∧ ∀ (j k : Nat) (r s : Rsc), L[j]? = some r → L[k]? = some s → j ≠ k → ∀ b, r.fp b → ¬ s.fp b
  st := fun h h' => ⟨fun r hr => r.st (fun b hb => h b ⟨r, hr, hb⟩) (h'.1 r hr), h'.2⟩

section
variable {X : Nat → Prop} {w0 w w' w1 : World} {L A M : List Rsc} {r r' : Rsc}

theorem Own.old (S : Own X w w1 L) (h0 : Le w0 w) (hX : ∀ b, X b → w0.heap.size ≤ b) : Le w0 w1 := by
  refine ⟨S.keep.os.trans h0.os, S.keep.tape.trans h0.tape, S.keep.output.trans h0.output, Nat.le_trans h0.size S.keep.size, fun b hb _ => ?_⟩
  exact (S.keep.block b (Nat.lt_of_lt_of_le hb h0.size) fun hx => by have := hX b hx; omega).trans (h0.block b hb id)

/-- Resource k is lent. -/
theorem Own.lend (S : Own X w0 w L) (k : Nat) (hk : L[k]? = some r) : Own r.fp w w [r] := Own.lent (S.ok k r hk) fun b hb => (S.bd k r hk b hb).1
/-- It comes back. -/
theorem Own.back (S : Own X w0 w L) (k : Nat) (hk : L[k]? = some r) (h : Own r.fp w w' [r']) : Own X w0 w' (L.set k r') :=
  S.turn k hk h.keep (fun _ _ h => h) (h.ok 0 r' rfl) fun b hb => by
    have := h.bd 0 r' rfl b hb
    rcases this with ⟨h1, h2 | h2⟩
    · exact .inr ⟨h2, h1⟩
    · exact .inl h2

theorem Own.sub (h : Own nob w w' L) : Own X w w' L :=
  ⟨.of_le h.keep, h.ok, fun k r hr b hb => ⟨(h.bd k r hr b hb).1, .inl ((h.bd k r hr b hb).2.resolve_right id)⟩, h.dj⟩

theorem Own.pack (S : Own X w0 w (A ++ L)) : Own X w0 w (A ++ [Vk.pack L]) := by
  have hL : ∀ r ∈ L, ∃ k : Nat, (A ++ L)[A.length + k]? = some r := by
    intro r hr
    obtain ⟨k, hk⟩ := List.getElem?_of_mem hr
    exact ⟨k, by rw [List.getElem?_append_right (by omega)]; simpa using hk⟩
  have hA : ∀ {k : Nat} {r : Rsc}, k < A.length → A[k]? = some r → (A ++ L)[k]? = some r := by
    intro k r hk hr; rw [List.getElem?_append_left hk]; exact hr
  refine ⟨S.keep, fun k s hs => ?_, fun k s hs b hb => ?_, fun j k s t hs ht hne b hb hb' => ?_⟩
  · rcases getElem?_snoc hs with ⟨hk, hs⟩ | ⟨_, rfl⟩
    · exact S.ok k s (hA hk hs)
    · refine ⟨fun r hr => ?_, fun j k r s hr hs hne => ?_⟩
      · obtain ⟨k, hk⟩ := hL r hr; exact S.ok _ r hk
      · refine S.dj (A.length + j) (A.length + k) r s ?_ ?_ (by omega)
        · rw [List.getElem?_append_right (by omega)]; simpa using hr
        · rw [List.getElem?_append_right (by omega)]; simpa using hs
  · rcases getElem?_snoc hs with ⟨hk, hs⟩ | ⟨_, rfl⟩
    · exact S.bd k s (hA hk hs) b hb
    · obtain ⟨r, hr, hb⟩ := hb
      obtain ⟨k, hk⟩ := hL r hr
      exact S.bd _ r hk b hb
  · rcases getElem?_snoc hs with ⟨hj, hs⟩ | ⟨ej, rfl⟩
    · rcases getElem?_snoc ht with ⟨hk, ht⟩ | ⟨ek, rfl⟩
      · exact S.dj j k s t (hA hj hs) (hA hk ht) hne b hb hb'
      · obtain ⟨r, hr, hb'⟩ := hb'
        obtain ⟨k', hk'⟩ := hL r hr
        exact S.dj j (A.length + k') s r (hA hj hs) hk' (by omega) b hb hb'
    · rcases getElem?_snoc ht with ⟨hk, ht⟩ | ⟨ek, rfl⟩
      · obtain ⟨r, hr, hb⟩ := hb
        obtain ⟨k', hk'⟩ := hL r hr
        exact S.dj (A.length + k') k r t hk' (hA hk ht) (by omega) b hb hb'
      · omega

theorem Own.unpack (S : Own X w0 w (A ++ [Vk.pack L])) : Own X w0 w (A ++ L) := by
  have hp : (A ++ [Vk.pack L])[A.length]? = some (Vk.pack L) := by simp
  have hA : ∀ {k : Nat} {r : Rsc}, k < A.length → (A ++ L)[k]? = some r → (A ++ [Vk.pack L])[k]? = some r := by
    intro k r hk hr; rw [List.getElem?_append_left hk] at hr ⊢; exact hr
  have hL : ∀ {k : Nat} {r : Rsc}, ¬ k < A.length → (A ++ L)[k]? = some r → L[k - A.length]? = some r := by
    intro k r hk hr; rwa [List.getElem?_append_right (by omega)] at hr
  refine ⟨S.keep, fun k s hs => ?_, fun k s hs b hb => ?_, fun j k s t hs ht hne b hb hb' => ?_⟩
  · by_cases hk : k < A.length
    · exact S.ok k s (hA hk hs)
    · exact (S.ok _ _ hp).1 s (List.mem_of_getElem? (hL hk hs))
  · by_cases hk : k < A.length
    · exact S.bd k s (hA hk hs) b hb
    · exact S.bd _ _ hp b ⟨s, List.mem_of_getElem? (hL hk hs), hb⟩
  · by_cases hj : j < A.length <;> by_cases hk : k < A.length
    · exact S.dj j k s t (hA hj hs) (hA hk ht) hne b hb hb'
    · exact S.dj j A.length s _ (hA hj hs) hp (by omega) b hb ⟨t, List.mem_of_getElem? (hL hk ht), hb'⟩
    · exact S.dj A.length k _ t hp (hA hk ht) (by omega) b ⟨s, List.mem_of_getElem? (hL hj hs), hb⟩ hb'
    · exact (S.ok _ _ hp).2 _ _ s t (hL hj hs) (hL hk ht) (by omega) b hb hb'

theorem Own.open (S : Own X w0 w [Vk.pack L]) : Own X w0 w L := S.unpack (A := [])
theorem Own.close (S : Own X w0 w L) : Own X w0 w [Vk.pack L] := S.pack (A := [])
theorem Own.nilR (w : World) : Own nilR.fp w w [Vk.nilR] := Own.lent trivial fun _ h => h.elim

/-- A call that kept all old memory may have been lent anything. -/
theorem Own.lent_le (S : Own r.fp w w [r]) (h : Le w w') : Own r.fp w w' [r] := S.step h

end
end Go.Vk

namespace Go.Vk
/-- A list that is written from its head on: behind place i it is still z. -/
def pre {α : Type} (l : List α) (z : α) (i : Nat) : List α := l.take i ++ List.replicate (l.length - i) z
section
variable {α : Type} {l : List α} {z a : α} {i : Nat}
theorem pre_zero : pre l z 0 = List.replicate l.length z := by simp [pre]
theorem pre_full : pre l z l.length = l := by simp [pre]
theorem pre_length (h : i ≤ l.length) : (pre l z i).length = l.length := by simp only [pre, List.length_append, List.length_take, List.length_replicate]; omega
theorem pre_get (h : i < l.length) : (pre l z i)[i]? = some z := by
  have h1 : (l.take i).length = i := by rw [List.length_take]; omega
  rw [pre, List.getElem?_append_right (by omega), h1, List.getElem?_replicate, if_pos (by omega)]
theorem pre_last (h : l[i]? = some a) : (pre l z (i + 1))[i]? = some a := by
  obtain ⟨hi, _⟩ := List.getElem?_eq_some_iff.1 h
  rw [pre, List.getElem?_append_left (by rw [List.length_take]; omega), List.getElem?_take, if_pos (by omega)]; exact h
theorem pre_step (h : l[i]? = some a) : (pre l z i).set i a = pre l z (i + 1) := by
  obtain ⟨hi, rfl⟩ := List.getElem?_eq_some_iff.1 h
  have h1 : (l.take i).length = i := by rw [List.length_take]; omega
  obtain ⟨m, hm⟩ : ∃ m, l.length - i = m + 1 := ⟨l.length - i - 1, by omega⟩
  have hm' : l.length - (i + 1) = m := by omega
  rw [pre, pre, List.set_append_right i l[i] (by omega), h1, Nat.sub_self, hm, hm', List.replicate_succ, List.set_cons_zero, List.take_succ_eq_append_getElem hi, List.append_assoc]
  rfl
end
end Go.Vk

namespace Go.Vk
open Go
section
variable {P : Program} {b : Frame} {cs : List Frame} {fin : Machine → Prop} {n : Nat} {all : Array Oper} {rest : List Oper} {k : List Item} {ρ : Env} {ds : List Deferred} {w : World} {X : Nat → Prop} {w0 : World} {L : List Rsc}
  {ty : TypeId} {pos : String} {af : Array Edge} {g : Option (Nat × Bool)} {T : TypeId} {x y : Operand} {d' : Option Nat} {α : Type} {E : Elt α} {v : Value} {b' o f i : Nat} {l : List α} {a a' : α}

/-- A store of one cell into an element of a slice of the call's own. -/
theorem l_storev1 {u : Value} (S : Own X w0 w L) (j : Nat) (hj : L[j]? = some (vec E v l)) (hg : gOk all n ρ g = true) (hat : At E v i ⟨b', o, none⟩)
    (hx : ev n ρ x = .pointer (some ⟨b', o + f, none⟩)) (hy : ev n ρ y = u) (h1 : u.oneCell' = true) (hs : ∀ w, (sizeOf T).run P w = .ok 1 w) (ha : l[i]? = some a) (hf : f + 1 ≤ E.sz)
    (he : splice (E.enc a) f [u] = E.enc a') (h : ∀ w', Own X w0 w' (L.set j (vec E v (l.set i a'))) → Keep (vec E v l).fp w w' → RunL P b cs fin n all rest k (updO d' undef ρ) ds w') :
    RunL P b cs fin n all (⟨d', .store T x y, ty, pos, af, g⟩ :: rest) k ρ ds w := by
  have hcs : u.cells = #[u] := by cases u <;> first | rfl | simp [Value.oneCell'] at h1
  exact l_storev S j hj hg hat hx (vs := [u]) (by rw [hy, hcs]) hs (by simpa using h1) ha hf he h
theorem l_storevi {z : Int} (S : Own X w0 w L) (j : Nat) (hj : L[j]? = some (vec E v l)) (hg : gOk all n ρ g = true) (hat : At E v i ⟨b', o, none⟩)
    (hx : ev n ρ x = .pointer (some ⟨b', o + f, none⟩)) (hy : ev n ρ y = .int .i64 z) (hs : ∀ w, (sizeOf T).run P w = .ok 1 w) (ha : l[i]? = some a) (hf : f + 1 ≤ E.sz)
    (he : splice (E.enc a) f [.int .i64 z] = E.enc a') (h : ∀ w', Own X w0 w' (L.set j (vec E v (l.set i a'))) → Keep (vec E v l).fp w w' → RunL P b cs fin n all rest k (updO d' undef ρ) ds w') :
    RunL P b cs fin n all (⟨d', .store T x y, ty, pos, af, g⟩ :: rest) k ρ ds w := l_storev1 S j hj hg hat hx hy rfl hs ha hf he h
theorem l_storevb {t : Bool} (S : Own X w0 w L) (j : Nat) (hj : L[j]? = some (vec E v l)) (hg : gOk all n ρ g = true) (hat : At E v i ⟨b', o, none⟩)
    (hx : ev n ρ x = .pointer (some ⟨b', o + f, none⟩)) (hy : ev n ρ y = .bool t) (hs : ∀ w, (sizeOf T).run P w = .ok 1 w) (ha : l[i]? = some a) (hf : f + 1 ≤ E.sz)
    (he : splice (E.enc a) f [.bool t] = E.enc a') (h : ∀ w', Own X w0 w' (L.set j (vec E v (l.set i a'))) → Keep (vec E v l).fp w w' → RunL P b cs fin n all rest k (updO d' undef ρ) ds w') :
    RunL P b cs fin n all (⟨d', .store T x y, ty, pos, af, g⟩ :: rest) k ρ ds w := l_storev1 S j hj hg hat hx hy rfl hs ha hf he h
/-- A store of a whole element. -/
theorem l_storeva {c : List Value} (S : Own X w0 w L) (j : Nat) (hj : L[j]? = some (vec E v l)) (hg : gOk all n ρ g = true) (hat : At E v i ⟨b', o, none⟩)
    (hx : ev n ρ x = .pointer (some ⟨b', o, none⟩)) (hy : ev n ρ y = .agg c.toArray) (hs : ∀ w, (sizeOf T).run P w = .ok E.sz w) (ha : l[i]? = some a) (he : c = E.enc a')
    (h : ∀ w', Own X w0 w' (L.set j (vec E v (l.set i a'))) → Keep (vec E v l).fp w w' → RunL P b cs fin n all rest k (updO d' undef ρ) ds w') :
    RunL P b cs fin n all (⟨d', .store T x y, ty, pos, af, g⟩ :: rest) k ρ ds w := by
  subst he
  exact l_storev (f := 0) S j hj hg hat hx (vs := E.enc a') (by rw [hy]; rfl) (by rw [E.len]; exact hs) (E.one a') ha (by rw [E.len]; omega) (splice_all (by rw [E.len, E.len])) h
end
theorem ones_nil : ∀ v ∈ ([] : List Value), v.oneCell' = true := fun _ h => by cases h
theorem ones_cons {x : Value} {l : List Value} (h : x.oneCell' = true) (hl : ∀ v ∈ l, v.oneCell' = true) : ∀ v ∈ x :: l, v.oneCell' = true := fun v hv => by
  rcases List.mem_cons.1 hv with rfl | hv
  · exact h
  · exact hl v hv
end Go.Vk
