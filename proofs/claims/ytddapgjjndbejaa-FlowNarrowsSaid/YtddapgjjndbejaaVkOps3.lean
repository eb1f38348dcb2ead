/- The proof engine, part 8: small rules; elements that are integers and bools. Generic over the program. -/
import Derived.Test.YtddapgjjndbejaaVkVec2
import Derived.KernelRfl
namespace Go.Vk
open Go

def intE (T : TypeId) : Elt Int where
  T := T
  sz := 1
  enc x := [.int .i64 x]
  zero := [.int .i64 0]
  len _ := rfl
  zlen := rfl
  one a x h := by simp at h; subst h; rfl
  pos := by decide

def boolE (T : TypeId) : Elt Bool where
  T := T
  sz := 1
  enc x := [.bool x]
  zero := [.bool false]
  len _ := rfl
  zlen := rfl
  one a x h := by simp at h; subst h; rfl
  pos := by decide

section
variable {P : Program} {b : Frame} {cs : List Frame} {fin : Machine → Prop} {n : Nat} {all : Array Oper} {rest : List Oper} {k : List Item} {ρ : Env} {ds : List Deferred} {w w' : World}
  {d : Nat} {d' : Option Nat} {ty : TypeId} {pos : String} {af : Array Edge} {g : Option (Nat × Bool)} {T : TypeId} {x y : Operand} {v : Value}

theorem x_notd {ev : Operand → Value} {p : Prop} [Decidable p] (hx : ev x = .bool (decide p)) : X P ev (.unOp .not T x) ty w (.bool (decide (¬ p))) w := by
  rw [decide_not]; exact x_not hx

theorem x_len {ev : Operand → Value} {α : Type} {E : Elt α} {l : List α} {e A : TypeId} (hr : Rd E w v l) (hx : ev x = v) (hu : ∀ w, (underlying A).run P w = .ok (.slice e) w) {w1 : World} :
    X P ev (.call ⟨.builtin .len, #[x], #[A]⟩) ty w1 (.int .i64 l.length) w1 := by
  obtain ⟨p, cap, rfl, _, _⟩ := hr
  exact x_len_slice hx hu

/-- The place of a slice's element, in a region that draws. -/
theorem w_index {α : Type} (L : Elt α) {K : Env → Prop} {l : List α} {i : Int} {q : α} (hg : gOk all n ρ g = true) (hr : Rd L w v l) (hx : ev n ρ x = v) (hy : ev n ρ y = .int .i64 i)
    (hu : ∀ w, (underlying T).run P w = .ok (.slice L.T) w) (hs : ∀ w, (sizeOf L.T).run P w = .ok L.sz w) (hb : 0 ≤ i) (hi : l[i.toNat]? = some q)
    (h : ∀ b' o', At L v i.toNat ⟨b', o', none⟩ → Row w b' o' (L.enc q) → RW P all n w K rest (upd ρ d (.pointer (some ⟨b', o', none⟩)))) :
    RW P all n w K (⟨some d, .indexAddr T x y, ty, pos, af, g⟩ :: rest) ρ := by
  obtain ⟨p, cap, rfl, hc, hrow⟩ := hr
  obtain ⟨b', o', rfl, hrw⟩ := hrow i.toNat q hi
  have hlt : i.toNat < l.length := (List.getElem?_eq_some_iff.1 hi).1
  exact w_x hg (fun w1 _ => x_indexAddr_slice hx hy hu hs ⟨hb, by omega⟩) (h b' (o' + i.toNat * L.sz) ⟨b', o', _, _, rfl, rfl⟩ hrw)

/-- An element of a slice of the call's own, where it lies. -/
theorem vec_row {α : Type} {E : Elt α} {l : List α} {i b' o' : Nat} {a : α} (h : (vec E v l).ok w) (hat : At E v i ⟨b', o', none⟩) (ha : l[i]? = some a) : Row w b' o' (E.enc a) := by
  obtain ⟨p, cap, rfl, _, hrow⟩ := vec_rd h
  obtain ⟨b1, o1, rfl, hr⟩ := hrow i a ha
  obtain ⟨b2, o2, len, cap2, hv, hq⟩ := hat
  simp only [Value.slice.injEq, Option.some.injEq, Addr.mk.injEq, and_true] at hv hq
  obtain ⟨⟨rfl, rfl⟩, _⟩ := hv
  obtain ⟨rfl, rfl⟩ := hq
  exact hr

end
end Go.Vk
