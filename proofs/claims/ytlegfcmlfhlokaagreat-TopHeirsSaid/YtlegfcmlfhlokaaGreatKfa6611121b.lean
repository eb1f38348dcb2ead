/- Texts joined for claims: VkSame, VkRow, VkRowDeed. -/
import Derived.Test.YtlegfcmlfhlokaaGreatK8521e6cdc8
import Derived.Carry
import Derived.ProofKit
import Derived.OpenShut
import Derived.Lib.SmallJoins
import Derived.Test.YtlegfcmlfhlokaaGreatK14dc260b23
set_option linter.unusedVariables false
set_option linter.unusedSimpArgs false
set_option linter.unusedSectionVars false
/- The proof engine, part 20: structs of integers that are compared. Generic over the program. -/
namespace Go.Vk
open Go

/-- Fields that are integers, one behind the other. -/
inductive IntFields (P : Program) : Nat → List Field → Prop
  | nil (k : Nat) : IntFields P k []
  | cons {k : Nat} {f : Field} {fs : List Field} : f.name ≠ "_" → f.offset = k → P.underlying f.type = some (.int .i64) → (∀ w, (isAgg f.type).run P w = .ok false w) → IntFields P (k + 1) fs → IntFields P k (f :: fs)

/-- Such fields, of one type, as a test. -/
def intFieldsB (t : TypeId) : Nat → List Field → Bool
  | _, [] => true
  | k, f :: fs => f.name != "_" && (f.offset == k && (f.type == t && intFieldsB t (k + 1) fs))
theorem intFields_of {P : Program} {t : TypeId} (hu : P.underlying t = some (.int .i64)) (hA : ∀ w, (isAgg t).run P w = .ok false w) : ∀ (fs : List Field) (k : Nat), intFieldsB t k fs = true → IntFields P k fs := by
  intro fs
  induction fs with
  | nil => intro k _; exact .nil k
  | cons f fs ih =>
    intro k h
    simp only [intFieldsB, Bool.and_eq_true, bne_iff_ne, ne_eq, beq_iff_eq] at h
    obtain ⟨h1, h2, h3, h4⟩ := h
    exact .cons h1 h2 (by rw [h3]; exact hu) (by rw [h3]; exact hA) (ih (k + 1) h4)

section
variable {P : Program} {w : World} {E : Operand → Value} {T T' ty : TypeId} {x y : Operand}

theorem run_eqFields_ints (d : Nat) : ∀ (fs : List Field) (k : Nat) (xs ys : List Int), IntFields P k fs → xs.length = k + fs.length → ys.length = k + fs.length →
    (Op.eqFields (d + 1) (xs.map (Value.int .i64)).toArray (ys.map (Value.int .i64)).toArray fs).run P w = .ok (decide (xs.drop k = ys.drop k)) w := by
  intro fs
  induction fs with
  | nil =>
    intro k xs ys _ hx hy
    simp at hx hy
    simp [Op.eqFields, List.drop_eq_nil_of_le, hx, hy]
  | cons f fs ih =>
    intro k xs ys h hx hy
    obtain _ | ⟨hn, ho, hu, hA, h2⟩ := h
    simp at hx hy
    have p1 : ∀ (zs : List Int) (hz : k < zs.length), (part f.type (zs.map (Value.int .i64)).toArray f.offset).run P w = .ok (.int .i64 zs[k]) w := by
      intro zs hz
      simp only [part, Sem.run_bind, hA, Result.andThen_ok, ho]
      have : ((zs.map (Value.int .i64)).toArray)[k]? = some (.int .i64 zs[k]) := by simp [hz]
      rw [this]
      simp
    have hkx : k < xs.length := by omega
    have hky : k < ys.length := by omega
    have h3 := ih (k + 1) xs ys h2 (by omega) (by omega)
    simp only [Op.eqFields, hn, ne_eq, not_false_eq_true, if_true, Sem.run_bind, p1 xs hkx, p1 ys hky, Result.andThen_ok, run_equalIn_int w d f.type .i64 .i64 _ _ hu]
    rw [List.drop_eq_getElem_cons hkx, List.drop_eq_getElem_cons hky]
    by_cases e : xs[k] = ys[k]
    · simp only [e, beq_self_eq_true, Bool.not_true, Bool.false_eq_true, if_false, h3, List.cons.injEq, true_and]
    have e2 : (xs[k] == ys[k]) = false := by simp [e]
    have hne : ¬ (xs[k] :: xs.drop (k + 1) = ys[k] :: ys.drop (k + 1)) := fun h => e (List.cons.inj h).1
    rw [decide_eq_false hne]
    simp [e2]

def Arc.ints (a : Arc) : List Int := [a.src, a.dst, a.lo, a.hi, a.loBy, a.hiBy]
end
end Go.Vk
namespace Go.Vk
open Go
section
variable {P : Program} {E : Operand → Value} {w : World} {T ty T' : TypeId} {x y : Operand} {p : Prop} [Decidable p]
end
end Go.Vk

/- The proof engine, part 19: from the data of a row to lists, and back. Generic over the program. -/
namespace Go.Vk
open Go Go.ChangeShapes Go.WideShapes Go.RowKit

section
variable {H : Type} {enc : TypeId × Value → H} {P : Program} {W W' : World} {base : Nat} {sp : Nat → Bool} {held : Bool}

/-- A slice reads as a list, whatever its elements are. -/
theorem rd_of {α : Type} (E : Elt α) {T : TypeId} (hu : P.underlying T = some (.slice E.T)) (hc : P.cellsOf E.T = E.sz) (hdec : ∀ fuel cs y, cs.length = E.sz → DataW.trod enc P W base sp held fuel E.T cs = some y → ∃ a, cs = E.enc a)
    {fuel : Nat} {v : Value} {y : DataW H × List MemPlace} (h : DataW.trod enc P W base sp held fuel T [v] = some y) : ∃ l, Rd E W v l ∧ l.length ≤ maxLen := by
  rcases DataW.trod_slice hu h with ⟨hcs, _⟩ | ⟨a, len, cap, elems, rest, n, _, hcs, _, _, hl, hm, hlen, hel, _, _⟩
  · simp at hcs
    subst hcs
    exact ⟨[], ⟨none, 0, rfl, Nat.le_refl _, fun i a h => by simp at h⟩, by simp⟩
  simp at hcs
  subst hcs
  rw [hc] at hel
  have key : ∀ i, i < len → ∃ a', (∀ j, j < E.sz → W.cell? ((a.add (i * E.sz)).add j) = (E.enc a')[j]?) := by
    intro i hi
    have h1 := hel i hi
    rw [List.getElem?_eq_getElem (by omega)] at h1
    obtain ⟨cs, hcs, hy⟩ := Option.bind_eq_some_iff.1 h1
    obtain ⟨_, h2, h3⟩ := World.cells?_some hcs
    obtain ⟨a', rfl⟩ := hdec _ _ _ h2 hy
    exact ⟨a', h3⟩
  by_cases h0 : len = 0
  · subst h0
    exact ⟨[], ⟨some a, cap, rfl, Nat.zero_le _, fun i a h => by simp at h⟩, by simp⟩
  have hne : Nonempty α := let ⟨a', _⟩ := key 0 (by omega); ⟨a'⟩
  let f : Nat → α := fun i => if h : i < len then Classical.choose (key i h) else Classical.choice hne
  have hf : ∀ i, i < len → ∀ j, j < E.sz → W.cell? ((a.add (i * E.sz)).add j) = (E.enc (f i))[j]? := by
    intro i hi
    have : f i = Classical.choose (key i hi) := dif_pos hi
    rw [this]
    exact Classical.choose_spec (key i hi)
  obtain ⟨b, o, spot⟩ := a
  have hspot : spot = none := by
    have h1 := hf 0 (by omega) 0 E.pos
    rw [List.getElem?_eq_getElem (by rw [E.len]; exact E.pos)] at h1
    simpa [Addr.add] using World.cell?_spot h1
  subst hspot
  refine ⟨(List.range len).map f, ⟨some ⟨b, o, none⟩, cap, by simp, by simpa using hl, fun i a' ha' => ?_⟩, by simp; omega⟩
  have hi : i < len := by have := (List.getElem?_eq_some_iff.1 ha').1; simpa using this
  have ha2 : f i = a' := by simpa [hi] using ha'
  subst ha2
  refine ⟨b, o, rfl, fun j x hx => ?_⟩
  have hj : j < E.sz := by have := (List.getElem?_eq_some_iff.1 hx).1; rwa [E.len] at this
  have h1 := hf i hi j hj
  rw [hx] at h1
  rw [add_plain, add_plain] at h1
  exact h1

theorem dec_int {t : TypeId} (ht : P.underlying t = some (.int .i64)) (fuel : Nat) (cs : List Value) (y : DataW H × List MemPlace) (_h : cs.length = 1) (hy : DataW.trod enc P W base sp held fuel t cs = some y) : ∃ a, cs = (intE t).enc a := by
  obtain ⟨n, rfl, _⟩ := DataW.trod_int ht hy
  exact ⟨n, rfl⟩

theorem below_of (h : Le W W') : Below W.heap.size W W' := ⟨h.os, h.tape, h.output, h.size, fun k hk => h.block k hk id⟩

theorem trodAll_below (hl : laidOutB P = true) (hb : Below W.heap.size W W') : ∀ {ts : List TypeId} {vs : List Value} {ds : List (DataW H)} {ps : List MemPlace}, (∀ t ∈ ts, P.readableRec t = true ∧ t < P.types.size) →
    DataW.TrodAll enc P W 0 (fun _ => true) true ts vs ds ps → (∀ x ∈ ps, x.block < W.heap.size) → DataW.TrodAll enc P W' 0 (fun b => decide (b < W.heap.size)) true ts vs ds ps
  | [], [], [], _, _, h, _ => h
  | _ :: _, _ :: _, _ :: _, _, hr, ⟨p, q, h1, h2, e⟩, hs => ⟨p, q, Below.trod hl (hr _ (List.mem_cons_self ..)).1 (hr _ (List.mem_cons_self ..)).2 h1 hb (fun x hx => hs x (by rw [e]; exact List.mem_append_left _ hx)),
      trodAll_below hl hb (fun t ht => hr t (List.mem_cons_of_mem _ ht)) h2 (fun x hx => hs x (by rw [e]; exact List.mem_append_right _ hx)), e⟩

/-- What a law leaves: it said true; its arguments read as they did. -/
theorem post_law {f : Func} {s : ChangeSpec} {apart fresh handsOn : Bool} {args : Array Value} {ds gs : List (DataW H)} {before : List MemPlace} {TB : TypeId}
    (hW : DataW.Whole enc P f.params.toList s.vars apart W args.toList ds gs before) (hl : laidOutB P = true) (hr : ∀ t ∈ f.params.toList, P.readableRec t = true ∧ t < P.types.size)
    (hTB : f.resultTypes = #[TB]) (ht : P.underlying TB = some .bool) (hs1 : (s.fn H (ds ++ gs)).results = [.lit (.bool true)]) (hs2 : (s.fn H (ds ++ gs)).args = ds) (hv0 : s.vars = []) (hv1 : (s.fn H (ds ++ gs)).vars = [])
    (hle : Le W W') : s.post enc P f apart fresh handsOn false W args (.bool true) W' := by
  have hlt : ∀ x ∈ before, x.block < W.heap.size := fun x hx => by simpa using hW.lt x hx
  have hW' := hW
  obtain ⟨p, q, hA, hV, hbe, _, _⟩ := hW
  rw [hv0] at hV
  obtain ⟨_, rfl⟩ := trodVars_none hV
  rw [List.append_nil] at hbe
  subst hbe
  refine ⟨ds, gs, before, [], before, [], hW', ?_, ?_, ?_, World.keptBut_mono (fun p hp => ⟨hp, .inr (.inl hp)⟩) ((below_of hle).frame _), fun h => by cases h⟩
  · rw [hs1, hTB]
    exact trodAll_mk1 (shut_bool ht _)
  · rw [hs2]
    exact trodAll_below hl (below_of hle) hr hA hlt
  rw [hv0, hv1]
  rfl
end
end Go.Vk

/- From the data of a row to deeds. Generic over the program. -/
namespace Go.Vk.Deed
open Go Go.Vk Go.ChangeShapes Go.WideShapes Go.RowKit
section
variable {H : Type} {enc : TypeId × Value → H} {P : Program} {W W' : World} {base : Nat} {sp : Nat → Bool} {held : Bool} {ti tu tl t : TypeId} {fs : Array Field}
/-- A slice reads as a list of which each element is as its data say. -/
theorem rd_of3 {α : Type} (E : Elt α) (Q : α → Prop) {T : TypeId} (hu : P.underlying T = some (.slice E.T)) (hc : P.cellsOf E.T = E.sz) (hdec : ∀ fuel cs y, cs.length = E.sz → DataW.trod enc P W base sp held fuel E.T cs = some y → ∃ a, cs = E.enc a ∧ Q a)
    {fuel : Nat} {v : Value} {y : DataW H × List MemPlace} (h : DataW.trod enc P W base sp held fuel T [v] = some y) : ∃ l, Rd E W v l ∧ l.length ≤ maxLen ∧ ∀ a ∈ l, Q a := by
  rcases DataW.trod_slice hu h with ⟨hcs, _⟩ | ⟨a, len, cap, elems, rest, n, _, hcs, _, _, hl, hm, hlen, hel, _, _⟩
  · simp at hcs
    subst hcs
    exact ⟨[], ⟨none, 0, rfl, Nat.le_refl _, fun i a h => by simp at h⟩, by simp, by simp⟩
  simp at hcs
  subst hcs
  rw [hc] at hel
  have key : ∀ i, i < len → ∃ a', (∀ j, j < E.sz → W.cell? ((a.add (i * E.sz)).add j) = (E.enc a')[j]?) ∧ Q a' := by
    intro i hi
    have h1 := hel i hi
    rw [List.getElem?_eq_getElem (by omega)] at h1
    obtain ⟨cs, hcs, hy⟩ := Option.bind_eq_some_iff.1 h1
    obtain ⟨_, h2, h3⟩ := World.cells?_some hcs
    obtain ⟨a', rfl, hq⟩ := hdec _ _ _ h2 hy
    exact ⟨a', h3, hq⟩
  by_cases h0 : len = 0
  · subst h0
    exact ⟨[], ⟨some a, cap, rfl, Nat.zero_le _, fun i a h => by simp at h⟩, by simp, by simp⟩
  have hne : Nonempty α := let ⟨a', _⟩ := key 0 (by omega); ⟨a'⟩
  let f : Nat → α := fun i => if h : i < len then Classical.choose (key i h) else Classical.choice hne
  have hf : ∀ i, i < len → (∀ j, j < E.sz → W.cell? ((a.add (i * E.sz)).add j) = (E.enc (f i))[j]?) ∧ Q (f i) := by
    intro i hi
    have : f i = Classical.choose (key i hi) := dif_pos hi
    rw [this]
    exact Classical.choose_spec (key i hi)
  obtain ⟨b, o, spot⟩ := a
  have hspot : spot = none := by
    have h1 := (hf 0 (by omega)).1 0 E.pos
    rw [List.getElem?_eq_getElem (by rw [E.len]; exact E.pos)] at h1
    simpa [Addr.add] using World.cell?_spot h1
  subst hspot
  refine ⟨(List.range len).map f, ⟨some ⟨b, o, none⟩, cap, by simp, by simpa using hl, fun i a' ha' => ?_⟩, by simp; omega, fun x hx => ?_⟩
  · have hi : i < len := by have := (List.getElem?_eq_some_iff.1 ha').1; simpa using this
    have ha2 : f i = a' := by simpa [hi] using ha'
    subst ha2
    refine ⟨b, o, rfl, fun j x hx => ?_⟩
    have hj : j < E.sz := by have := (List.getElem?_eq_some_iff.1 hx).1; rwa [E.len] at this
    have h1 := (hf i hi).1 j hj
    rw [hx] at h1
    rw [add_plain, add_plain] at h1
    exact h1
  obtain ⟨i, hi, rfl⟩ := List.mem_map.1 hx
  exact (hf i (List.mem_range.1 hi)).2
/-- A deed's cells. -/
structure DeedT (P : Program) (t ti tu tl : TypeId) (fs : Array Field) : Prop where
  t : P.underlying t = some (.struct fs)
  i : P.underlying ti = some (.int .i64)
  u : P.underlying tu = some (.int .u8)
  l : P.underlying tl = some (.slice ti)
  ci : P.cellsOf ti = 1
  cu : P.cellsOf tu = 1
  cl : P.cellsOf tl = 1
  f : ∀ i, i < 11 → ∃ f, fs[i]? = some f ∧ f.offset = i ∧ f.type = if i = 3 then tu else if i < 9 then ti else tl
theorem dec_deed (hT : DeedT P t ti tu tl fs) (fuel : Nat) (cs : List Value) (y : DataW H × List MemPlace) (hlen : cs.length = 11) (hy : DataW.trod enc P W base sp held fuel t cs = some y) : ∃ a : Rw, cs = encD a ∧ SubR ti W a := by
  obtain ⟨xs, n, _, _, _, hxs, hf⟩ := DataW.trod_struct hT.t hy
  have hi : ∀ i, i < 9 → i ≠ 3 → ∃ z : Int, (cs.drop i).take 1 = [.int .i64 z] := by
    intro i hi h3
    obtain ⟨f, hfi, hto, hte⟩ := hT.f i (by omega)
    have h1 := hf i f hfi
    have hlt : i < xs.length := by rw [hxs]; exact (Array.getElem?_eq_some_iff.1 hfi).1
    rw [hte, hto, if_neg h3, if_pos hi, hT.ci, List.getElem?_eq_getElem hlt] at h1
    obtain ⟨z, hz, _⟩ := DataW.trod_int hT.i h1
    exact ⟨z, hz⟩
  have hk : ∃ z : Int, (cs.drop 3).take 1 = [.int .u8 z] := by
    obtain ⟨f, hfi, hto, hte⟩ := hT.f 3 (by omega)
    have h1 := hf 3 f hfi
    have hlt : 3 < xs.length := by rw [hxs]; exact (Array.getElem?_eq_some_iff.1 hfi).1
    rw [hte, hto, if_pos rfl, hT.cu, List.getElem?_eq_getElem hlt] at h1
    obtain ⟨z, hz, _⟩ := DataW.trod_int hT.u h1
    exact ⟨z, hz⟩
  have hs : ∀ i, 9 ≤ i → i < 11 → ∃ (c : Value) (y : DataW H × List MemPlace), (cs.drop i).take 1 = [c] ∧ DataW.trod enc P W base sp held n tl [c] = some y := by
    intro i h9 hi
    obtain ⟨f, hfi, hto, hte⟩ := hT.f i hi
    have h1 := hf i f hfi
    have hlt : i < xs.length := by rw [hxs]; exact (Array.getElem?_eq_some_iff.1 hfi).1
    rw [hte, hto, if_neg (by omega), if_neg (by omega), hT.cl, List.getElem?_eq_getElem hlt] at h1
    have hne : i < cs.length := by omega
    have e : (cs.drop i).take 1 = [cs[i]] := by rw [List.drop_eq_getElem_cons hne]; rfl
    rw [e] at h1
    exact ⟨_, _, e, h1⟩
  match cs, hlen with
  | [c0, c1, c2, c3, c4, c5, c6, c7, c8, c9, c10], _ =>
    obtain ⟨z0, e0⟩ := hi 0 (by decide) (by decide)
    obtain ⟨z1, e1⟩ := hi 1 (by decide) (by decide)
    obtain ⟨z2, e2⟩ := hi 2 (by decide) (by decide)
    obtain ⟨z3, e3⟩ := hk
    obtain ⟨z4, e4⟩ := hi 4 (by decide) (by decide)
    obtain ⟨z5, e5⟩ := hi 5 (by decide) (by decide)
    obtain ⟨z6, e6⟩ := hi 6 (by decide) (by decide)
    obtain ⟨z7, e7⟩ := hi 7 (by decide) (by decide)
    obtain ⟨z8, e8⟩ := hi 8 (by decide) (by decide)
    obtain ⟨s9, y9, e9, g9⟩ := hs 9 (by decide) (by decide)
    obtain ⟨s10, y10, e10, g10⟩ := hs 10 (by decide) (by decide)
    simp at e0 e1 e2 e3 e4 e5 e6 e7 e8 e9 e10
    subst e0; subst e1; subst e2; subst e3; subst e4; subst e5; subst e6; subst e7; subst e8; subst e9; subst e10
    obtain ⟨l9, q1, q2⟩ := rd_of (intE ti) hT.l hT.ci (fun fuel cs y hl hy => dec_int hT.i fuel cs y hl hy) g9
    obtain ⟨d9, rfl⟩ := rd_hv q1
    obtain ⟨l10, q3, q4⟩ := rd_of (intE ti) hT.l hT.ci (fun fuel cs y hl hy => dec_int hT.i fuel cs y hl hy) g10
    obtain ⟨d10, rfl⟩ := rd_hv q3
    exact ⟨(⟨z0, z1, z2, z3, z4, z5, z6, z7, z8, l9, l10⟩, d9, d10), rfl, q1, q3, by unfold maxLen at q2; exact Nat.le_trans q2 (by decide), by unfold maxLen at q4; exact Nat.le_trans q4 (by decide)⟩
theorem open_deeds {T : TypeId} (hT : DeedT P t ti tu tl fs) (hc : P.cellsOf t = 11) (hu : P.underlying T = some (.slice t)) {fuel : Nat} {v : Value} {y : DataW H × List MemPlace} (h : DataW.trod enc P W base sp held fuel T [v] = some y) : ∃ rs, DsR t ti W v rs ∧ rs.length ≤ maxLen := by
  obtain ⟨l, h1, h2, h3⟩ := rd_of3 (deedE t) (SubR ti W) hu hc (fun fuel cs y hl hy => dec_deed hT fuel cs y hl hy) h
  exact ⟨l, ⟨h1, h3, by unfold maxLen at h2; exact Nat.le_trans h2 (by decide)⟩, h2⟩
end
end Go.Vk.Deed
