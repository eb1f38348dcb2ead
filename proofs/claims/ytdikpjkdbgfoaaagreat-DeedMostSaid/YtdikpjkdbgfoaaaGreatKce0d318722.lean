/- Texts joined for claims: VkSame, VkRow, VkRowDeed. -/
import Derived.Test.YtdikpjkdbgfoaaaGreatKa495f3ab85
import Derived.Carry
import Derived.ProofKit
import Derived.OpenShut
import Derived.Lib.SmallJoins
import Derived.Test.YtdikpjkdbgfoaaaGreatKbe40614bab
/- The proof engine, part 20: structs of integers that are compared. Generic over the program. -/
namespace Go.Vk
open Go

/-- Fields that are integers, one behind the other. -/
inductive IntFields (P : Program) : Nat → List Field → Prop
  | nil (k : Nat) : IntFields P k []
  | cons {k : Nat} {f : Field} {fs : List Field} : f.name ≠ "_" → f.offset = k → P.underlying f.type = some (.int .i64) → (∀ w, (isAgg f.type).run P w = .ok false w) → IntFields P (k + 1) fs → IntFields P k (f :: fs)

/-- Such fields, of one type, as a test. -/
def intFieldsB (t : TypeId) : Nat → List Field → Bool
  | _, [] => true
  | k, f :: fs => f.name != "_" && (f.offset == k && (f.type == t && intFieldsB t (k + 1) fs))
section
variable {P : Program} {w : World} {E : Operand → Value} {T T' ty : TypeId} {x y : Operand}

def Arc.ints (a : Arc) : List Int := [a.src, a.dst, a.lo, a.hi, a.loBy, a.hiBy]
end
end Go.Vk
namespace Go.Vk
open Go
section
variable {P : Program} {E : Operand → Value} {w : World} {T ty T' : TypeId} {x y : Operand} {p : Prop} [Decidable p]
end
end Go.Vk

/- The proof engine, part 19: from the data of a row to lists, and back. Generic over the program. -/
namespace Go.Vk
open Go Go.ChangeShapes Go.WideShapes Go.RowKit

section
variable {H : Type} {enc : TypeId × Value → H} {P : Program} {W W' : World} {base : Nat} {sp : Nat → Bool} {held : Bool}

theorem below_of (h : Le W W') : Below W.heap.size W W' := ⟨h.os, h.tape, h.output, h.size, fun k hk => h.block k hk id⟩

theorem trodAll_below (hl : laidOutB P = true) (hb : Below W.heap.size W W') : ∀ {ts : List TypeId} {vs : List Value} {ds : List (DataW H)} {ps : List MemPlace}, (∀ t ∈ ts, P.readableRec t = true ∧ t < P.types.size) →
    DataW.TrodAll enc P W 0 (fun _ => true) true ts vs ds ps → (∀ x ∈ ps, x.block < W.heap.size) → DataW.TrodAll enc P W' 0 (fun b => decide (b < W.heap.size)) true ts vs ds ps
  | [], [], [], _, _, h, _ => h
  | _ :: _, _ :: _, _ :: _, _, hr, ⟨p, q, h1, h2, e⟩, hs => ⟨p, q, Below.trod hl (hr _ (List.mem_cons_self ..)).1 (hr _ (List.mem_cons_self ..)).2 h1 hb (fun x hx => hs x (by rw [e]; exact List.mem_append_left _ hx)),
      trodAll_below hl hb (fun t ht => hr t (List.mem_cons_of_mem _ ht)) h2 (fun x hx => hs x (by rw [e]; exact List.mem_append_right _ hx)), e⟩

/-- What a law leaves: it said true; its arguments read as they did. -/
theorem post_law {f : Func} {s : ChangeSpec} {apart fresh handsOn : Bool} {args : Array Value} {ds gs : List (DataW H)} {before : List MemPlace} {TB : TypeId}
    (hW : DataW.Whole enc P f.params.toList s.vars apart W args.toList ds gs before) (hl : laidOutB P = true) (hr : ∀ t ∈ f.params.toList, P.readableRec t = true ∧ t < P.types.size)
    (hTB : f.resultTypes = #[TB]) (ht : P.underlying TB = some .bool) (hs1 : (s.fn H (ds ++ gs)).results = [.lit (.bool true)]) (hs2 : (s.fn H (ds ++ gs)).args = ds) (hv0 : s.vars = []) (hv1 : (s.fn H (ds ++ gs)).vars = [])
    (hle : Le W W') : s.post enc P f apart fresh handsOn false W args (.bool true) W' := by
  have hlt : ∀ x ∈ before, x.block < W.heap.size := fun x hx => by simpa using hW.lt x hx
  have hW' := hW
  obtain ⟨p, q, hA, hV, hbe, _, _⟩ := hW
  rw [hv0] at hV
  obtain ⟨_, rfl⟩ := trodVars_none hV
  rw [List.append_nil] at hbe
  subst hbe
  refine ⟨ds, gs, before, [], before, [], hW', ?_, ?_, ?_, World.keptBut_mono (fun p hp => ⟨hp, .inr (.inl hp)⟩) ((below_of hle).frame _), fun h => by cases h⟩
  · rw [hs1, hTB]
    exact trodAll_mk1 (shut_bool ht _)
  · rw [hs2]
    exact trodAll_below hl (below_of hle) hr hA hlt
  rw [hv0, hv1]
  rfl
end
end Go.Vk

/- From the data of a row to deeds. Generic over the program. -/
namespace Go.Vk.Deed
open Go Go.Vk Go.ChangeShapes Go.WideShapes Go.RowKit
section
variable {H : Type} {enc : TypeId × Value → H} {P : Program} {W W' : World} {base : Nat} {sp : Nat → Bool} {held : Bool} {ti tu tl t : TypeId} {fs : Array Field}
/-- A deed's cells. -/
structure DeedT (P : Program) (t ti tu tl : TypeId) (fs : Array Field) : Prop where
  t : P.underlying t = some (.struct fs)
  i : P.underlying ti = some (.int .i64)
  u : P.underlying tu = some (.int .u8)
  l : P.underlying tl = some (.slice ti)
  ci : P.cellsOf ti = 1
  cu : P.cellsOf tu = 1
  cl : P.cellsOf tl = 1
  f : ∀ i, i < 11 → ∃ f, fs[i]? = some f ∧ f.offset = i ∧ f.type = if i = 3 then tu else if i < 9 then ti else tl
end
end Go.Vk.Deed
