/- The proof engine, part 14: slices of slices. Generic over the program. -/
import Derived.Test.YtddapgjjndbejaaVkCut
namespace Go.Vk
open Go

/-- A slice's header. -/
abbrev Hd := Option Addr × Nat × Nat
def hv (h : Hd) : Value := .slice h.1 h.2.1 h.2.2
def hdE (T : TypeId) : Elt Hd where
  T := T
  sz := 1
  enc h := [hv h]
  zero := [.slice none 0 0]
  len _ := rfl
  zlen := rfl
  one a x h := by simp at h; subst h; rfl
  pos := by decide

/-- The slices that stand in a slice, each of one's own. -/
def nest {α : Type} (E : Elt α) (hs : List Hd) (ls : List (List α)) : List Rsc := List.zipWith (fun h l => vec E (hv h) l) hs ls

section
variable {α : Type} {E : Elt α} {hs : List Hd} {ls : List (List α)} {h h' : Hd} {l l' : List α} {j : Nat}
theorem nest_get (h1 : hs[j]? = some h) (h2 : ls[j]? = some l) : (nest E hs ls)[j]? = some (vec E (hv h) l) := by
  simp [nest, List.getElem?_zipWith, h1, h2]
theorem nest_set : ∀ (hs : List Hd) (ls : List (List α)) (j : Nat), (nest E hs ls).set j (vec E (hv h') l') = nest E (hs.set j h') (ls.set j l') := by
  intro hs
  induction hs with
  | nil => intro ls j; simp [nest]
  | cons h hs ih =>
    intro ls j
    cases ls with
    | nil => cases j <;> simp [nest]
    | cons l ls =>
      cases j with
      | zero => simp [nest]
      | succ j => have := ih ls j; simp only [nest] at this ⊢; simp [this]
theorem nest_nil (E : Elt α) (n : Nat) : ∀ r ∈ nest E (List.replicate n ((none, 0, 0) : Hd)) (List.replicate n ([] : List α)), r = vec E (.slice none 0 0) [] := by
  intro r hr
  simp only [nest, List.zipWith_replicate, List.mem_replicate] at hr
  exact hr.2

variable {X : Nat → Prop} {w0 w : World} {L : List Rsc}
/-- Slices that are nil need no memory. -/
theorem Own.nest (S : Own X w0 w L) (E : Elt α) (n : Nat) : Own X w0 w (L ++ [Vk.pack (Vk.nest E (List.replicate n (none, 0, 0)) (List.replicate n []))]) := by
  refine S.add (Le.refl w) ⟨⟨fun r hr => ?_, fun j k r s hr _ _ b hb => ?_⟩, fun b hb => ?_⟩
  · rw [nest_nil E n r hr]; exact .inl ⟨rfl, rfl⟩
  · rw [nest_nil E n r (List.mem_of_getElem? hr)] at hb; exact absurd hb (vec_nil_fp b)
  · obtain ⟨r, hr, hb⟩ := hb
    rw [nest_nil E n r hr] at hb
    exact absurd hb (vec_nil_fp b)

/-- One of the slices reads as its list. -/
theorem nest_rd (S : (Vk.pack (Vk.nest E hs ls)).ok w) (h1 : hs[j]? = some h) (h2 : ls[j]? = some l) : Rd E w (hv h) l :=
  vec_rd (S.1 _ (List.mem_of_getElem? (nest_get h1 h2)))
end
end Go.Vk

namespace Go.Vk
open Go
/-- The sizes of a struct's fields. -/
def Sizes (P : Program) : List Field → List Nat → Prop
  | [], [] => True
  | f :: fs, s :: ss => (∀ w, (sizeOf f.type).run P w = .ok s w) ∧ Sizes P fs ss
  | _, _ => False
def placesOf : List Field → List Nat → List (Nat × Nat)
  | f :: fs, s :: ss => (f.offset, s) :: placesOf fs ss
  | _, _ => []
theorem run_places {P : Program} : ∀ (fs : List Field) (ss : List Nat), Sizes P fs ss → ∀ w, (fs.mapM (m := Sem) fun f => do pure (f.offset, ← sizeOf f.type)).run P w = .ok (placesOf fs ss) w := by
  intro fs
  induction fs with
  | nil => intro ss h w; cases ss with
    | nil => simp [placesOf]
    | cons => cases h
  | cons f fs ih =>
    intro ss h w
    cases ss with
    | nil => cases h
    | cons s ss =>
      obtain ⟨h1, h2⟩ := h
      simp only [List.mapM_cons, Sem.run_bind, h1, Result.andThen_ok, Sem.run_pure, ih ss h2, placesOf]

theorem x_buildS {P : Program} {E : Operand → Value} {T ty : TypeId} {w : World} {parts : List (Nat × Operand)} {z : Value} {zc out : List Value} {fs : List Field} {ss : List Nat} (hz : ∀ w, (zeroValue T).run P w = .ok z w) (hzc : z.cells = zc.toArray)
    (hu : ∀ w, (underlying T).run P w = .ok (.struct fs.toArray) w) (hs : Sizes P fs ss)
    (hf : Instr.fill ((placesOf fs ss).toArray[·]?) zc.toArray (parts.map fun p => (p.1, E p.2)) = some out.toArray) : X P E (.build T parts.toArray) ty w (.agg out.toArray) w :=
  x_build hz hzc hu (fun w => by
    rw [List.mapM_toArray]
    show ((fs.mapM (m := Sem) fun f => do pure (f.offset, ← sizeOf f.type)) >>= fun l => pure l.toArray).run P w = _
    rw [Sem.run_bind, run_places fs ss hs w, Result.andThen_ok, Sem.run_pure]) hf
end Go.Vk
