/- The proof engine, part 19: from the data of a row to lists, and back. Generic over the program. -/
import Derived.Test.YtddapgjjndbejaaVkFlowMath
import Derived.Carry
import Derived.ProofKit
import Derived.OpenShut
import Derived.Lib.SmallJoins
namespace Go.Vk
open Go Go.ChangeShapes Go.WideShapes Go.RowKit

section
variable {H : Type} {enc : TypeId × Value → H} {P : Program} {W W' : World} {base : Nat} {sp : Nat → Bool} {held : Bool}

/-- A slice reads as a list, whatever its elements are. -/
theorem rd_of {α : Type} (E : Elt α) {T : TypeId} (hu : P.underlying T = some (.slice E.T)) (hc : P.cellsOf E.T = E.sz) (hdec : ∀ fuel cs y, cs.length = E.sz → DataW.trod enc P W base sp held fuel E.T cs = some y → ∃ a, cs = E.enc a)
    {fuel : Nat} {v : Value} {y : DataW H × List MemPlace} (h : DataW.trod enc P W base sp held fuel T [v] = some y) : ∃ l, Rd E W v l ∧ l.length ≤ maxLen := by
  rcases DataW.trod_slice hu h with ⟨hcs, _⟩ | ⟨a, len, cap, elems, rest, n, _, hcs, _, _, hl, hm, hlen, hel, _, _⟩
  · simp at hcs
    subst hcs
    exact ⟨[], ⟨none, 0, rfl, Nat.le_refl _, fun i a h => by simp at h⟩, by simp⟩
  · simp at hcs
    subst hcs
    rw [hc] at hel
    have key : ∀ i, i < len → ∃ a', (∀ j, j < E.sz → W.cell? ((a.add (i * E.sz)).add j) = (E.enc a')[j]?) := by
      intro i hi
      have h1 := hel i hi
      rw [List.getElem?_eq_getElem (by omega)] at h1
      obtain ⟨cs, hcs, hy⟩ := Option.bind_eq_some_iff.1 h1
      obtain ⟨_, h2, h3⟩ := World.cells?_some hcs
      obtain ⟨a', rfl⟩ := hdec _ _ _ h2 hy
      exact ⟨a', h3⟩
    by_cases h0 : len = 0
    · subst h0
      exact ⟨[], ⟨some a, cap, rfl, Nat.zero_le _, fun i a h => by simp at h⟩, by simp⟩
    · have hne : Nonempty α := let ⟨a', _⟩ := key 0 (by omega); ⟨a'⟩
      let f : Nat → α := fun i => if h : i < len then Classical.choose (key i h) else Classical.choice hne
      have hf : ∀ i, i < len → ∀ j, j < E.sz → W.cell? ((a.add (i * E.sz)).add j) = (E.enc (f i))[j]? := by
        intro i hi
        have : f i = Classical.choose (key i hi) := dif_pos hi
        rw [this]
        exact Classical.choose_spec (key i hi)
      obtain ⟨b, o, spot⟩ := a
      have hspot : spot = none := by
        have h1 := hf 0 (by omega) 0 E.pos
        rw [List.getElem?_eq_getElem (by rw [E.len]; exact E.pos)] at h1
        simpa [Addr.add] using World.cell?_spot h1
      subst hspot
      refine ⟨(List.range len).map f, ⟨some ⟨b, o, none⟩, cap, by simp, by simpa using hl, fun i a' ha' => ?_⟩, by simp; omega⟩
      have hi : i < len := by have := (List.getElem?_eq_some_iff.1 ha').1; simpa using this
      have ha2 : f i = a' := by simpa [hi] using ha'
      subst ha2
      refine ⟨b, o, rfl, fun j x hx => ?_⟩
      have hj : j < E.sz := by have := (List.getElem?_eq_some_iff.1 hx).1; rwa [E.len] at this
      have h1 := hf i hi j hj
      rw [hx] at h1
      rw [add_plain, add_plain] at h1
      exact h1

theorem dec_int {t : TypeId} (ht : P.underlying t = some (.int .i64)) (fuel : Nat) (cs : List Value) (y : DataW H × List MemPlace) (_h : cs.length = 1) (hy : DataW.trod enc P W base sp held fuel t cs = some y) : ∃ a, cs = (intE t).enc a := by
  obtain ⟨n, rfl, _⟩ := DataW.trod_int ht hy
  exact ⟨n, rfl⟩

/-- Six numbers. -/
theorem dec_arc {t e : TypeId} {fs : Array Field} (ht : P.underlying t = some (.struct fs)) (he : P.underlying e = some (.int .i64)) (hc : P.cellsOf e = 1)
    (h0 : ∀ i, i < 6 → ∃ f, fs[i]? = some f ∧ f.type = e ∧ f.offset = i) (hn : fs.size = 6)
    (fuel : Nat) (cs : List Value) (y : DataW H × List MemPlace) (hl : cs.length = 6) (hy : DataW.trod enc P W base sp held fuel t cs = some y) : ∃ a, cs = Arc.enc a := by
  obtain ⟨xs, n, _, _, _, hxs, hf⟩ := DataW.trod_struct ht hy
  have key : ∀ i, i < 6 → ∃ z : Int, (cs.drop i).take 1 = [.int .i64 z] := by
    intro i hi
    obtain ⟨f, hfi, hte, hto⟩ := h0 i hi
    have h1 := hf i f hfi
    rw [hte, hto, hc, List.getElem?_eq_getElem (by omega)] at h1
    obtain ⟨z, hz, _⟩ := DataW.trod_int he h1
    exact ⟨z, hz⟩
  match cs, hl with
  | [c0, c1, c2, c3, c4, c5], _ =>
    obtain ⟨z0, e0⟩ := key 0 (by decide)
    obtain ⟨z1, e1⟩ := key 1 (by decide)
    obtain ⟨z2, e2⟩ := key 2 (by decide)
    obtain ⟨z3, e3⟩ := key 3 (by decide)
    obtain ⟨z4, e4⟩ := key 4 (by decide)
    obtain ⟨z5, e5⟩ := key 5 (by decide)
    simp at e0 e1 e2 e3 e4 e5
    subst e0; subst e1; subst e2; subst e3; subst e4; subst e5
    exact ⟨⟨z0, z1, z2, z3, z4, z5⟩, rfl⟩

theorem below_of (h : Le W W') : Below W.heap.size W W' := ⟨h.os, h.tape, h.output, h.size, fun k hk => h.block k hk id⟩

theorem trodAll_below (hl : laidOutB P = true) (hb : Below W.heap.size W W') : ∀ {ts : List TypeId} {vs : List Value} {ds : List (DataW H)} {ps : List MemPlace}, (∀ t ∈ ts, P.readableRec t = true ∧ t < P.types.size) →
    DataW.TrodAll enc P W 0 (fun _ => true) true ts vs ds ps → (∀ x ∈ ps, x.block < W.heap.size) → DataW.TrodAll enc P W' 0 (fun b => decide (b < W.heap.size)) true ts vs ds ps
  | [], [], [], _, _, h, _ => h
  | _ :: _, _ :: _, _ :: _, _, hr, ⟨p, q, h1, h2, e⟩, hs => ⟨p, q, Below.trod hl (hr _ (List.mem_cons_self ..)).1 (hr _ (List.mem_cons_self ..)).2 h1 hb (fun x hx => hs x (by rw [e]; exact List.mem_append_left _ hx)),
      trodAll_below hl hb (fun t ht => hr t (List.mem_cons_of_mem _ ht)) h2 (fun x hx => hs x (by rw [e]; exact List.mem_append_right _ hx)), e⟩

/-- What a law leaves: it said true; its arguments read as they did. -/
theorem post_law {f : Func} {s : ChangeSpec} {apart fresh handsOn : Bool} {args : Array Value} {ds gs : List (DataW H)} {before : List MemPlace} {TB : TypeId}
    (hW : DataW.Whole enc P f.params.toList s.vars apart W args.toList ds gs before) (hl : laidOutB P = true) (hr : ∀ t ∈ f.params.toList, P.readableRec t = true ∧ t < P.types.size)
    (hTB : f.resultTypes = #[TB]) (ht : P.underlying TB = some .bool) (hs1 : (s.fn H (ds ++ gs)).results = [.lit (.bool true)]) (hs2 : (s.fn H (ds ++ gs)).args = ds) (hv0 : s.vars = []) (hv1 : (s.fn H (ds ++ gs)).vars = [])
    (hle : Le W W') : s.post enc P f apart fresh handsOn false W args (.bool true) W' := by
  have hlt : ∀ x ∈ before, x.block < W.heap.size := fun x hx => by simpa using hW.lt x hx
  have hW' := hW
  obtain ⟨p, q, hA, hV, hbe, _, _⟩ := hW
  rw [hv0] at hV
  obtain ⟨_, rfl⟩ := trodVars_none hV
  rw [List.append_nil] at hbe
  subst hbe
  refine ⟨ds, gs, before, [], before, [], hW', ?_, ?_, ?_, World.keptBut_mono (fun p hp => ⟨hp, .inr (.inl hp)⟩) ((below_of hle).frame _), fun h => by cases h⟩
  · rw [hs1, hTB]
    exact trodAll_mk1 (shut_bool ht _)
  · rw [hs2]
    exact trodAll_below hl (below_of hle) hr hA hlt
  · rw [hv0, hv1]
    rfl
end
end Go.Vk
