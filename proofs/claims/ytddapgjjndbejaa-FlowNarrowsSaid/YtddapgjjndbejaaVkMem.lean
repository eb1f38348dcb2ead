/- The proof engine, part 2: memory: what is kept, what is owned, what is read. Generic over the program. -/
import Derived.Test.YtddapgjjndbejaaVkCore
import Derived.Laws.World
import Derived.Laws.Rows
import Derived.Laws.Cells
import Derived.Below
namespace Go.Vk
open Go

def nob : Nat → Prop := fun _ => False

/-- But for the blocks of X all old memory is as it was. -/
structure Keep (X : Nat → Prop) (w w' : World) : Prop where
  os : w'.os = w.os
  tape : w'.tape = w.tape
  output : w'.output = w.output
  size : w.heap.size ≤ w'.heap.size
  block : ∀ b, b < w.heap.size → ¬ X b → w'.heap[b]? = w.heap[b]?

abbrev Le (w w' : World) : Prop := Keep nob w w'

theorem Keep.refl (X : Nat → Prop) (w : World) : Keep X w w := ⟨rfl, rfl, rfl, Nat.le_refl _, fun _ _ _ => rfl⟩
theorem Keep.trans {X : Nat → Prop} {w w' w'' : World} (h : Keep X w w') (h' : Keep X w' w'') : Keep X w w'' :=
  ⟨h'.os.trans h.os, h'.tape.trans h.tape, h'.output.trans h.output, Nat.le_trans h.size h'.size,
   fun b hb hx => (h'.block b (Nat.lt_of_lt_of_le hb h.size) hx).trans (h.block b hb hx)⟩
theorem Keep.mono {X Y : Nat → Prop} {w w' : World} (h : Keep X w w') (hXY : ∀ b, b < w.heap.size → X b → Y b) : Keep Y w w' :=
  ⟨h.os, h.tape, h.output, h.size, fun b hb hy => h.block b hb fun hx => hy (hXY b hb hx)⟩
theorem Keep.of_le {X : Nat → Prop} {w w' : World} (h : Le w w') : Keep X w w' := h.mono fun _ _ h => h.elim
theorem Le.refl (w : World) : Le w w := Keep.refl _ _
theorem Le.trans {w w' w'' : World} (h : Le w w') (h' : Le w' w'') : Le w w'' := Keep.trans h h'

theorem frozen_out {w : World} {a : Addr} (h : w.heap.size ≤ a.block) : w.frozen? a = false := by
  unfold World.frozen?
  rw [Array.getElem?_eq_none h]

theorem frozen_at {w : World} {b : Nat} {c : Array Value} {T : TypeId} (h : w.heap[b]? = some (.cells c T (0, 0))) (o : Nat) (s : Option Nat) : w.frozen? ⟨b, o, s⟩ = false := by
  unfold World.frozen?
  simp [h]

theorem Le.alloc_cells (w : World) (c : Array Value) (T : TypeId) : Le w (w.alloc (.cells c T (0, 0))) :=
  ⟨rfl, rfl, rfl, by simp, fun b hb _ => heap_alloc_old w _ b hb⟩

theorem Le.drew (w : World) : Le w w.drew := ⟨rfl, rfl, rfl, Nat.le_refl _, fun _ _ _ => rfl⟩

theorem Le.frozen {w w' : World} (h : Le w w') {a : Addr} (ha : a.block < w.heap.size) : w'.frozen? a = w.frozen? a := by
  unfold World.frozen?; rw [h.block a.block ha id]

theorem Keep.setCell (w : World) (a : Addr) (v : Value) : Keep (· = a.block) w (w.setCell a v) :=
  ⟨rfl, rfl, rfl, by simp, fun _ _ h => heap_setCell_other w a _ v h⟩

/-! ### blocks -/

/-- The whole block is known, and nothing of it is frozen. -/
def Blk (w : World) (b : Nat) (c : List Value) (T : TypeId) : Prop := w.heap[b]? = some (.cells c.toArray T (0, 0))

theorem Blk.lt {w : World} {b : Nat} {c : List Value} {T : TypeId} (h : Blk w b c T) : b < w.heap.size := (Array.getElem?_eq_some_iff.1 h).1
theorem Blk.cell {w : World} {b : Nat} {c : List Value} {T : TypeId} (h : Blk w b c T) {o : Nat} {v : Value} (hi : c[o]? = some v) : w.cell? ⟨b, o, none⟩ = some v := by
  rw [cell_of_row w b o _ T _ h]; simpa using hi
theorem Blk.frozen {w : World} {b : Nat} {c : List Value} {T : TypeId} (h : Blk w b c T) (o : Nat) : w.frozen? ⟨b, o, none⟩ = false := frozen_at h o none
theorem Blk.new (w : World) (c : List Value) (T : TypeId) : Blk (w.alloc (.cells c.toArray T (0, 0))) w.heap.size c T := heap_alloc_new w _
theorem Blk.set {w : World} {b : Nat} {c : List Value} {T : TypeId} (h : Blk w b c T) (o : Nat) (v : Value) : Blk (w.setCell ⟨b, o, none⟩ v) b (c.set o v) T := by
  have := heap_setCell_same w b o c.toArray T v h
  unfold Blk
  rw [this]
  simp
theorem Blk.keep {X : Nat → Prop} {w w' : World} {b : Nat} {c : List Value} {T : TypeId} (h : Blk w b c T) (hk : Keep X w w') (hx : ¬ X b) : Blk w' b c T := (hk.block b h.lt hx).trans h

/-! ### resources -/

structure Rsc where
  fp : Nat → Prop
  ok : World → Prop
  st : ∀ {w w' : World}, (∀ b, fp b → w'.heap[b]? = w.heap[b]?) → ok w → ok w'

def blk (b : Nat) (c : List Value) (T : TypeId) : Rsc := ⟨(· = b), fun w => Blk w b c T, fun h hb => (h b rfl).trans hb⟩

/-- What is owned beside the old memory (all of w0 but for X): each resource holds, its blocks are new or of X, no two share a block. -/
structure Own (X : Nat → Prop) (w0 w : World) (L : List Rsc) : Prop where
  keep : Keep X w0 w
  ok : ∀ (k : Nat) (r : Rsc), L[k]? = some r → r.ok w
  bd : ∀ (k : Nat) (r : Rsc), L[k]? = some r → ∀ b, r.fp b → b < w.heap.size ∧ (w0.heap.size ≤ b ∨ X b)
  dj : ∀ (j k : Nat) (r s : Rsc), L[j]? = some r → L[k]? = some s → j ≠ k → ∀ b, r.fp b → ¬ s.fp b

section own
variable {X : Nat → Prop} {w0 w w' : World} {L : List Rsc} {r r' : Rsc} {b : Nat} {c : List Value} {T : TypeId} {o : Nat} {v : Value}

theorem Own.start (w : World) : Own X w w [] := ⟨Keep.refl _ _, fun _ _ h => by simp at h, fun _ _ h => by simp at h, fun _ _ _ _ h => by simp at h⟩

/-- A resource that was lent: its blocks are the blocks that may change. -/
theorem Own.lent (hr : r.ok w) (hb : ∀ b, r.fp b → b < w.heap.size) : Own r.fp w w [r] := by
  refine ⟨Keep.refl _ _, fun k s h => ?_, fun k s h b hs => ?_, fun j k s t h h' hne => ?_⟩
  · cases k with
    | zero => simp at h; subst h; exact hr
    | succ k => simp at h
  · cases k with
    | zero => simp at h; subst h; exact ⟨hb b hs, .inr hs⟩
    | succ k => simp at h
  · cases j <;> cases k <;> simp at h h' hne

theorem Own.at (h : Own X w0 w L) (k : Nat) (hk : L[k]? = some r) : r.ok w := h.ok k r hk
theorem Own.blk (h : Own X w0 w L) (k : Nat) (hk : L[k]? = some (blk b c T)) : Blk w b c T := h.ok k _ hk
theorem Own.cell (h : Own X w0 w L) (k : Nat) (hk : L[k]? = some (Vk.blk b c T)) (hi : c[o]? = some v) : w.cell? ⟨b, o, none⟩ = some v := (h.blk k hk).cell hi

/-- All that is owned is left as it is. -/
theorem Own.step (h : Own X w0 w L) (hk : Le w w') : Own X w0 w' L :=
  ⟨h.keep.trans hk.of_le, fun k r hr => r.st (fun b hb => hk.block b (h.bd k r hr b hb).1 id) (h.ok k r hr),
   fun k r hr b hb => ⟨Nat.lt_of_lt_of_le (h.bd k r hr b hb).1 hk.size, (h.bd k r hr b hb).2⟩, h.dj⟩

/-- What a call hands over in new memory. -/
structure New (w w' : World) (r : Rsc) : Prop where
  ok : r.ok w'
  bd : ∀ b, r.fp b → w.heap.size ≤ b ∧ b < w'.heap.size

theorem New.step {w'' : World} (h : New w w' r) (hk : Le w' w'') : New w w'' r :=
  ⟨r.st (fun b hb => hk.block b (h.bd b hb).2 id) h.ok, fun b hb => ⟨(h.bd b hb).1, Nat.lt_of_lt_of_le (h.bd b hb).2 hk.size⟩⟩
theorem New.back {w1 : World} (h : New w1 w' r) (hk : w.heap.size ≤ w1.heap.size) : New w w' r :=
  ⟨h.ok, fun b hb => ⟨Nat.le_trans hk (h.bd b hb).1, (h.bd b hb).2⟩⟩

theorem getElem?_snoc {α : Type} {l : List α} {x y : α} {k : Nat} (h : (l ++ [x])[k]? = some y) : (k < l.length ∧ l[k]? = some y) ∨ (k = l.length ∧ x = y) := by
  rcases Nat.lt_trichotomy k l.length with hk | hk | hk
  · left; rw [List.getElem?_append_left hk] at h; exact ⟨hk, h⟩
  · right; subst hk; simpa using h
  · rw [List.getElem?_append_right (by omega)] at h
    rw [List.getElem?_eq_none (by simp; omega)] at h
    cases h

/-- A call's result in new memory is owned. -/
theorem Own.add (h : Own X w0 w L) (hk : Le w w') (hn : New w w' r) : Own X w0 w' (L ++ [r]) := by
  have h' := h.step hk
  refine ⟨h'.keep, fun k s hs => ?_, fun k s hs b hb => ?_, fun j k s t hs ht hne b hb => ?_⟩
  · rcases getElem?_snoc hs with ⟨_, hs⟩ | ⟨_, rfl⟩
    · exact h'.ok k s hs
    · exact hn.ok
  · rcases getElem?_snoc hs with ⟨_, hs⟩ | ⟨_, rfl⟩
    · exact h'.bd k s hs b hb
    · exact ⟨(hn.bd b hb).2, .inl (Nat.le_trans h.keep.size (hn.bd b hb).1)⟩
  · rcases getElem?_snoc hs with ⟨h1, hs⟩ | ⟨h1, rfl⟩
    · rcases getElem?_snoc ht with ⟨h2, ht⟩ | ⟨h2, rfl⟩
      · exact h.dj j k s t hs ht hne b hb
      · intro hb'
        have := (h.bd j s hs b hb).1
        have := (hn.bd b hb').1
        omega
    · rcases getElem?_snoc ht with ⟨h2, ht⟩ | ⟨h2, rfl⟩
      · intro hb'
        have := (h.bd k t ht b hb').1
        have := (hn.bd b hb).1
        omega
      · omega

theorem New.blk (w : World) (c : List Value) (T : TypeId) : New w (w.alloc (.cells c.toArray T (0, 0))) (Vk.blk w.heap.size c T) :=
  ⟨Blk.new w c T, fun b hb => by cases hb; simp⟩

theorem Own.alloc (h : Own X w0 w L) (c : List Value) (T : TypeId) : Own X w0 (w.alloc (.cells c.toArray T (0, 0))) (L ++ [Vk.blk w.heap.size c T]) :=
  h.add (Le.alloc_cells w _ T) (New.blk w c T)

/-- Resource k becomes another one: its blocks are those of the elder one, or new. -/
theorem Own.turn {Y : Nat → Prop} (h : Own X w0 w L) (k : Nat) (hr : L[k]? = some r) (hk : Keep Y w w') (hY : ∀ b, b < w.heap.size → Y b → r.fp b) (hn : r'.ok w')
    (hfp : ∀ b, r'.fp b → r.fp b ∨ (w.heap.size ≤ b ∧ b < w'.heap.size)) : Own X w0 w' (L.set k r') := by
  have hkk : k < L.length := (List.getElem?_eq_some_iff.1 hr).1
  have hset : ∀ {j s}, (L.set k r')[j]? = some s → (j = k ∧ s = r') ∨ (j ≠ k ∧ L[j]? = some s) := by
    intro j s hs
    by_cases e : j = k
    · subst e; left
      rw [List.getElem?_set_self hkk] at hs
      exact ⟨rfl, (Option.some.inj hs).symm⟩
    · right; rw [List.getElem?_set_ne (Ne.symm e)] at hs; exact ⟨e, hs⟩
  have hX : ∀ b, b < w0.heap.size → ¬ X b → w'.heap[b]? = w.heap[b]? := by
    intro b hb hx
    refine hk.block b (Nat.lt_of_lt_of_le hb h.keep.size) fun hy => ?_
    have := (h.bd k r hr b (hY b (Nat.lt_of_lt_of_le hb h.keep.size) hy)).2
    rcases this with h1 | h1
    · omega
    · exact hx h1
  refine ⟨⟨hk.os.trans h.keep.os, hk.tape.trans h.keep.tape, hk.output.trans h.keep.output, Nat.le_trans h.keep.size hk.size, fun b hb hx => (hX b hb hx).trans (h.keep.block b hb hx)⟩, ?_, ?_, ?_⟩
  · intro j s hs
    rcases hset hs with ⟨_, rfl⟩ | ⟨e, hs⟩
    · exact hn
    · exact s.st (fun b hb => hk.block b (h.bd j s hs b hb).1 fun hy => h.dj j k s r hs hr e b hb (hY b (h.bd j s hs b hb).1 hy)) (h.ok j s hs)
  · intro j s hs b hb
    rcases hset hs with ⟨_, rfl⟩ | ⟨e, hs⟩
    · rcases hfp b hb with h1 | ⟨h1, h2⟩
      · exact ⟨Nat.lt_of_lt_of_le (h.bd k r hr b h1).1 hk.size, (h.bd k r hr b h1).2⟩
      · exact ⟨h2, .inl (Nat.le_trans h.keep.size h1)⟩
    · exact ⟨Nat.lt_of_lt_of_le (h.bd j s hs b hb).1 hk.size, (h.bd j s hs b hb).2⟩
  · intro i j s t hs ht hne b hb hb'
    rcases hset hs with ⟨e1, rs⟩ | ⟨e1, hs2⟩
    · rcases hset ht with ⟨e2, rt⟩ | ⟨e2, ht2⟩
      · omega
      · rw [rs] at hb
        rcases hfp b hb with h1 | ⟨h1, h2⟩
        · exact h.dj k j r t hr ht2 (Ne.symm e2) b h1 hb'
        · have := (h.bd j t ht2 b hb').1; omega
    · rcases hset ht with ⟨e2, rt⟩ | ⟨e2, ht2⟩
      · rw [rt] at hb'
        rcases hfp b hb' with h1 | ⟨h1, h2⟩
        · exact h.dj k i r s hr hs2 (Ne.symm e1) b h1 hb
        · have := (h.bd i s hs2 b hb).1; omega
      · exact h.dj i j s t hs2 ht2 hne b hb hb'

theorem Own.set (h : Own X w0 w L) (k : Nat) (hr : L[k]? = some (Vk.blk b c T)) (o : Nat) (v : Value) : Own X w0 (w.setCell ⟨b, o, none⟩ v) (L.set k (Vk.blk b (c.set o v) T)) :=
  h.turn k hr (Keep.setCell w ⟨b, o, none⟩ v) (fun _ _ h => h) ((h.blk k hr).set o v) (fun _ h => .inl h)

/-- Resource k read in another way. -/
theorem Own.as (h : Own X w0 w L) (k : Nat) (hr : L[k]? = some r) (hn : r'.ok w) (hfp : ∀ b, r'.fp b → r.fp b) : Own X w0 w (L.set k r') :=
  h.turn (Y := nob) k hr (Le.refl w) (fun _ _ h => h.elim) hn (fun b hb => .inl (hfp b hb))

theorem Own.take (h : Own X w0 w L) (n : Nat) : Own X w0 w (L.take n) := by
  have key : ∀ {k : Nat} {r : Rsc}, (L.take n)[k]? = some r → L[k]? = some r := by
    intro k r hk
    rw [List.getElem?_take] at hk
    split at hk
    · exact hk
    · cases hk
  exact ⟨h.keep, fun k r hr => h.ok k r (key hr), fun k r hr => h.bd k r (key hr), fun j k r s hr hs => h.dj j k r s (key hr) (key hs)⟩

theorem Own.perm (h : Own X w0 w L) (is : List Nat) (hn : is.Nodup) {L' : List Rsc} (hL : ∀ (k : Nat) (r : Rsc), L'[k]? = some r → ∃ i : Nat, is[k]? = some i ∧ L[i]? = some r) : Own X w0 w L' := by
  refine ⟨h.keep, fun k r hr => ?_, fun k r hr => ?_, fun j k r s hr hs hne => ?_⟩
  · obtain ⟨i, _, hi⟩ := hL k r hr; exact h.ok i r hi
  · obtain ⟨i, _, hi⟩ := hL k r hr; exact h.bd i r hi
  · obtain ⟨i, h1, hi⟩ := hL j r hr
    obtain ⟨i', h2, hi'⟩ := hL k s hs
    refine h.dj i i' r s hi hi' fun e => hne ?_
    subst e
    obtain ⟨h1l, h1⟩ := List.getElem?_eq_some_iff.1 h1
    obtain ⟨h2l, h2⟩ := List.getElem?_eq_some_iff.1 h2
    have hp := List.pairwise_iff_getElem.1 hn
    rcases Nat.lt_trichotomy j k with e | e | e
    · exact absurd (h1.trans h2.symm) (hp j k h1l h2l e)
    · exact e
    · exact absurd (h2.trans h1.symm) (hp k j h2l h1l e)

/-- The last resource is a new one with regard to an elder world. -/
theorem Own.le (h : Own nob w0 w L) : Le w0 w := h.keep
theorem Own.new (h : Own nob w0 w L) (k : Nat) (hr : L[k]? = some r) : New w0 w r :=
  ⟨h.ok k r hr, fun b hb => ⟨(h.bd k r hr b hb).2.resolve_right id, (h.bd k r hr b hb).1⟩⟩

end own

/-! ### slices that are read -/

/-- How an element lies in memory. -/
structure Elt (α : Type) where
  T : TypeId
  sz : Nat
  enc : α → List Value
  zero : List Value
  len : ∀ a, (enc a).length = sz
  zlen : zero.length = sz
  one : ∀ a, ∀ x ∈ enc a, x.oneCell' = true
  pos : 0 < sz

/-- Consecutive cells. -/
def Row (w : World) (b o : Nat) (c : List Value) : Prop := ∀ j x, c[j]? = some x → w.cell? ⟨b, o + j, none⟩ = some x

/-- A slice's value reads as this list. -/
def Rd {α : Type} (E : Elt α) (w : World) (v : Value) (l : List α) : Prop :=
  ∃ p cap, v = .slice p l.length cap ∧ l.length ≤ cap ∧ ∀ (i : Nat) (a : α), l[i]? = some a → ∃ b o, p = some ⟨b, o, none⟩ ∧ Row w b (o + i * E.sz) (E.enc a)

theorem cell_keep {X : Nat → Prop} {w w' : World} {a : Addr} {v : Value} (h : w.cell? a = some v) (hk : Keep X w w') (hx : ¬ X a.block) : w'.cell? a = some v := by
  have hlt := World.block_lt_of_cell? (h := h)
  rw [← h]
  unfold World.cell?
  rw [hk.block a.block hlt hx]

theorem Row.le {w w' : World} {b o : Nat} {c : List Value} (h : Row w b o c) (hk : Le w w') : Row w' b o c := fun j x hx => cell_keep (h j x hx) hk id

theorem Rd.le {α : Type} {E : Elt α} {w w' : World} {v : Value} {l : List α} (h : Rd E w v l) (hk : Le w w') : Rd E w' v l := by
  obtain ⟨p, cap, hv, hc, h⟩ := h
  refine ⟨p, cap, hv, hc, fun i a ha => ?_⟩
  obtain ⟨b, o, hp, hr⟩ := h i a ha
  exact ⟨b, o, hp, hr.le hk⟩

theorem Rd.cells {α : Type} {E : Elt α} {w : World} {v : Value} {l : List α} (h : Rd E w v l) : v.cells = [v].toArray := by
  obtain ⟨p, cap, rfl, _⟩ := h; rfl
theorem Rd.one {α : Type} {E : Elt α} {w : World} {v : Value} {l : List α} (h : Rd E w v l) : v.oneCell' = true := by
  obtain ⟨p, cap, rfl, _⟩ := h; rfl

/-- A slice of the call's own: nil, or the whole of a block from its head. -/
def vec {α : Type} (E : Elt α) (v : Value) (l : List α) : Rsc where
  fp := fun b => ∃ n cap, v = .slice (some ⟨b, 0, none⟩) n cap
  ok := fun w => (v = .slice none 0 0 ∧ l = []) ∨ ∃ b cap c, v = .slice (some ⟨b, 0, none⟩) l.length cap ∧ l.length ≤ cap ∧ cap ≤ maxLen ∧
    c.length = cap * E.sz ∧ c.take (l.length * E.sz) = l.flatMap E.enc ∧ Blk w b c E.T
  st := by
    intro w w' hk h
    rcases h with h | ⟨b, cap, c, hv, h1, h2, h3, h4, hb⟩
    · exact .inl h
    · exact .inr ⟨b, cap, c, hv, h1, h2, h3, h4, (hk b ⟨_, _, hv⟩).trans hb⟩

theorem flatMap_enc_length {α : Type} (E : Elt α) (l : List α) : (l.flatMap E.enc).length = l.length * E.sz := by
  induction l with
  | nil => simp
  | cons a l ih => simp [ih, E.len, Nat.add_mul]; omega

theorem flatMap_enc_get {α : Type} (E : Elt α) : ∀ (l : List α) (i : Nat) (a : α) (j : Nat) (x : Value), l[i]? = some a → (E.enc a)[j]? = some x → (l.flatMap E.enc)[i * E.sz + j]? = some x := by
  intro l
  induction l with
  | nil => intro i a j x h; simp at h
  | cons a l ih =>
    intro i c j x h hx
    have hj : j < E.sz := by have := (List.getElem?_eq_some_iff.1 hx).1; rwa [E.len] at this
    rw [List.flatMap_cons]
    cases i with
    | zero =>
      simp at h; subst h
      rw [List.getElem?_append_left (by rw [E.len]; omega)]
      simpa using hx
    | succ i =>
      rw [List.getElem?_append_right (by rw [E.len, Nat.add_mul]; omega), E.len]
      have := ih i c j x (by simpa using h) hx
      rw [← this]
      congr 1
      rw [Nat.add_mul]; omega

theorem vec_rd {α : Type} {E : Elt α} {w : World} {v : Value} {l : List α} (h : (vec E v l).ok w) : Rd E w v l := by
  rcases h with ⟨hv, rfl⟩ | ⟨b, cap, c, hv, h1, h2, h3, h4, hb⟩
  · exact ⟨none, 0, hv, Nat.le_refl _, fun i a h => by simp at h⟩
  · refine ⟨_, cap, hv, h1, fun i a ha => ⟨b, 0, rfl, fun j x hx => hb.cell ?_⟩⟩
    have h5 := flatMap_enc_get E l i a j x ha hx
    rw [← h4, List.getElem?_take] at h5
    rw [Nat.zero_add]
    split at h5
    · exact h5
    · cases h5

end Go.Vk
