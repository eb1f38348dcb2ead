/- Nets, as plain mathematics, part 5: what the package's functions answer. No program in sight. -/
import Derived.Test.YtddapgjjndbejaaVkFlowShow
namespace Go.Vk.Flow
open Go

/-- There is no circulation. -/
def NoC (N : Int) (arcs : List Arc) : Prop := ∃ A ns, hind N arcs A ns = true
theorem NoC.no {N : Int} {arcs : List Arc} (h : NoC N arcs) (hV : Valid N arcs) {x : List Int} (hc : Circ arcs x) : False := let ⟨_, _, hh⟩ := h; hind_no hV hh hc

theorem zero_wts (arcs : List Arc) : Wts arcs (List.replicate arcs.length 0) := ⟨List.length_replicate, fun y hy => by have := List.eq_of_mem_replicate hy; omega⟩

/-- What Some answers. -/
inductive SomeR (N : Int) (arcs : List Arc) : List Int → Int → Prop
  | bad : chk N arcs ≠ 0 → SomeR N arcs [] (chk N arcs)
  | no : Valid N arcs → NoC N arcs → SomeR N arcs [] 60
  | yes {x : List Int} : Valid N arcs → Circ arcs x → SomeR N arcs x 0
/-- What Obstacle answers. -/
inductive ObsR (N : Int) (arcs : List Arc) : Int → List Int → Bool → Int → Prop
  | bad : chk N arcs ≠ 0 → ObsR N arcs 0 [] false (chk N arcs)
  | no {A : Int} {ns : List Int} : Valid N arcs → hind N arcs A ns = true → ObsR N arcs A ns true 0
  | yes {x : List Int} : Valid N arcs → Circ arcs x → ObsR N arcs 0 [] false 0

def askw (N : Int) (arcs : List Arc) (wl : List Int) : Int := askd N arcs (row wl arcs.length (-1000) 1000)
theorem askw_zero {N : Int} {arcs : List Arc} {wl : List Int} : askw N arcs wl = 0 ↔ Valid N arcs ∧ Wts arcs wl := by rw [askw, askd_zero, row_wts]
/-- What Greatest answers: the sum, the amounts, the potentials, the error. -/
inductive GrR (N : Int) (arcs : List Arc) (wl : List Int) : Int → List Int → List Int → Int → Prop
  | bad : askw N arcs wl ≠ 0 → GrR N arcs wl 0 [] [] (askw N arcs wl)
  | no : Valid N arcs → Wts arcs wl → NoC N arcs → GrR N arcs wl 0 [] [] 60
  | yes {x q : List Int} : Valid N arcs → Wts arcs wl → Opt N arcs wl x q → GrR N arcs wl (dot wl x) x q 0

theorem row_neg (wl : List Int) (n : Int) : row (wl.map (- ·)) n (-1000) 1000 = row wl n (-1000) 1000 := by
  rw [Bool.eq_iff_iff, row_iff, row_iff, List.length_map]
  constructor
  · rintro ⟨h1, h2⟩
    refine ⟨h1, fun x hx => ?_⟩
    have := h2 (-x) (List.mem_map.2 ⟨x, hx, rfl⟩)
    omega
  · rintro ⟨h1, h2⟩
    refine ⟨h1, fun x hx => ?_⟩
    obtain ⟨y, hy, rfl⟩ := List.mem_map.1 hx
    have := h2 y hy
    show -1000 ≤ -y ∧ -y ≤ 1000
    omega
theorem askw_neg (N : Int) (arcs : List Arc) (wl : List Int) : askw N arcs (wl.map (- ·)) = askw N arcs wl := by rw [askw, row_neg]; rfl
theorem GrR.badneg {N : Int} {arcs : List Arc} {wl : List Int} (h : askw N arcs wl ≠ 0) : GrR N arcs (wl.map (- ·)) 0 [] [] (askw N arcs wl) := by
  rw [← askw_neg] at h ⊢; exact .bad h
theorem neg_wts {arcs : List Arc} {wl : List Int} (h : Wts arcs wl) : Wts arcs (wl.map (- ·)) := by
  have := row_wts.2 h
  rw [← row_neg] at this
  exact row_wts.1 this

def inb (arcs : List Arc) (i : Int) : Bool := decide (0 ≤ i ∧ i ≤ (arcs.length : Int) - 1)
def aski (N : Int) (arcs : List Arc) (i : Int) : Int := askd N arcs (inb arcs i)
theorem aski_zero {N : Int} {arcs : List Arc} {i : Int} : aski N arcs i = 0 ↔ Valid N arcs ∧ 0 ≤ i ∧ i < arcs.length := by
  rw [aski, askd_zero, inb, decide_eq_true_eq]
  constructor
  · rintro ⟨h1, h2⟩; exact ⟨h1, by omega⟩
  · rintro ⟨h1, h2⟩; exact ⟨h1, by omega⟩
theorem Opt.unit_eq {N : Int} {arcs : List Arc} {i : Nat} {k : Int} {x q : List Int} (h : Opt N arcs (unit arcs.length i k) x q) (hi : i < arcs.length) : dot (unit arcs.length i k) x = k * nth x i :=
  dot_unit arcs.length i x hi (nth_get (by rw [h.circ.bds.1]; exact hi))
/-- What Range answers: the least amount of an arc, the greatest, the error. -/
inductive RaR (N : Int) (arcs : List Arc) (i : Int) : Int → Int → Int → Prop
  | bad : aski N arcs i ≠ 0 → RaR N arcs i 0 0 (aski N arcs i)
  | no : aski N arcs i = 0 → NoC N arcs → RaR N arcs i 0 0 60
  | yes {x q y r : List Int} : aski N arcs i = 0 → Opt N arcs (unit arcs.length i.toNat (-1)) x q → Opt N arcs (unit arcs.length i.toNat 1) y r → RaR N arcs i (nth x i.toNat) (nth y i.toNat) 0

/-- What one end of a range answers. -/
inductive EndR (N : Int) (arcs : List Arc) (i : Nat) (k : Int) : Int → Int → Prop
  | no : NoC N arcs → EndR N arcs i k 0 60
  | yes {x q : List Int} : Opt N arcs (unit arcs.length i k) x q → EndR N arcs i k (nth x i) 0
theorem GrR.low {N : Int} {arcs : List Arc} {i : Nat} {n e : Int} {x q : List Int} (h : GrR N arcs (unit arcs.length i (-1)) n x q e) (hV : Valid N arcs) (hi : i < arcs.length) : EndR N arcs i (-1) (-n) e := by
  cases h with
  | bad h => exact absurd (askw_zero.2 ⟨hV, unit_wts (by omega)⟩) h
  | no _ _ h => exact .no h
  | yes _ _ h =>
    rw [h.unit_eq hi]
    have e : -(-1 * nth x i) = nth x i := by omega
    rw [e]
    exact .yes h
theorem GrR.high {N : Int} {arcs : List Arc} {i : Nat} {n e : Int} {x q : List Int} (h : GrR N arcs (unit arcs.length i 1) n x q e) (hV : Valid N arcs) (hi : i < arcs.length) : EndR N arcs i 1 n e := by
  cases h with
  | bad h => exact absurd (askw_zero.2 ⟨hV, unit_wts (by omega)⟩) h
  | no _ _ h => exact .no h
  | yes _ _ h =>
    rw [h.unit_eq hi, Int.one_mul]
    exact .yes h
theorem RaR.of {N : Int} {arcs : List Arc} {i : Int} {n m e f : Int} (h0 : aski N arcs i = 0) (h : EndR N arcs i.toNat (-1) n e) (he : e = 0) (h' : EndR N arcs i.toNat 1 m f) (hf : f = 0) : RaR N arcs i n m 0 := by
  cases h with
  | no => cases he
  | yes h1 =>
    cases h' with
    | no => cases hf
    | yes h2 => exact .yes h0 h1 h2
theorem EndR.cut {N : Int} {arcs : List Arc} {i : Nat} {k n e : Int} (h : EndR N arcs i k n e) (he : e ≠ 0) : e = 60 ∧ NoC N arcs := by
  cases h with
  | no h => exact ⟨rfl, h⟩
  | yes => exact absurd rfl he
theorem GrR.bd {N : Int} {arcs : List Arc} {wl x q : List Int} {n e : Int} (h : GrR N arcs wl n x q e) : -4000000000000 ≤ n ∧ n ≤ 4000000000000 := by
  cases h with
  | bad => omega
  | no => omega
  | yes hV hw ho =>
    have h1 := dot_bd_take (ys := wl) (zs := x) (by have := hV.len; have := hw.len; omega) hw.bd (ho.circ.amts hV).bd wl.length
    rw [List.take_length, List.take_of_length_le (by rw [ho.circ.bds.1, hw.len]; exact Nat.le_refl _)] at h1
    exact h1
/-- The two ends, in order. -/
def sgn (i : Nat) : Int := if i = 0 then -1 else 1
theorem Ends.more {N : Int} {arcs : List Arc} {i k : Nat} {f : Nat → Int} {n e : Int} (h : ∀ j, j < i → EndR N arcs k (sgn j) (f j) 0) (hn : EndR N arcs k (sgn i) n e) (he : e = 0) : ∀ j, j < i + 1 → EndR N arcs k (sgn j) (upf f i n j) 0 := by
  subst he
  intro j hj
  unfold upf
  by_cases e : j = i
  · subst e; rw [if_pos rfl]; exact hn
  · rw [if_neg e]; exact h j (by omega)
theorem Ends.done {N : Int} {arcs : List Arc} {i : Int} {f : Nat → Int} (h0 : aski N arcs i = 0) (h : ∀ j, j < 2 → EndR N arcs i.toNat (sgn j) (f j) 0) : RaR N arcs i (f 0) (f 1) 0 := RaR.of h0 (h 0 (by decide)) rfl (h 1 (by decide)) rfl
/-- A list of functions that have taken one argument. -/
def fnE (T : TypeId) (c : Value) : Elt Nat where
  T := T
  sz := 1
  enc k := [.func (.func k) #[c] #[]]
  zero := [.nilFunc]
  len _ := rfl
  zlen := rfl
  one a x h := by simp at h; subst h; rfl
  pos := by decide
end Go.Vk.Flow
