/- Nets, as plain mathematics, part 6: nets made of nets. No program in sight. -/
import Derived.Test.YtddapgjjndbejaaVkFlowRel
namespace Go.Vk.Flow
open Go

theorem set_get {α : Type} {l : List α} {i : Nat} {a b : α} (h : l[i]? = some a) : (l.set i b)[i]? = some b := List.getElem?_set_self (List.getElem?_eq_some_iff.1 h).1
theorem set_same {α : Type} {l : List α} {i : Nat} {a : α} (h : l[i]? = some a) : l.set i a = l := by
  obtain ⟨hi, rfl⟩ := List.getElem?_eq_some_iff.1 h
  exact List.set_getElem_self hi

/-! ### narrower -/

def rg (x m : Int) : Bool := decide (0 ≤ x ∧ x ≤ m)
/-- The error of Narrow. -/
def narE (N : Int) (arcs : List Arc) (i lo hi r : Int) : Int := askd N arcs (inb arcs i && rg lo 1000000 && rg hi 1000000 && rg r 1000000)
theorem narE_zero {N : Int} {arcs : List Arc} {i lo hi r : Int} : narE N arcs i lo hi r = 0 ↔ Valid N arcs ∧ (0 ≤ i ∧ i < arcs.length) ∧ (0 ≤ lo ∧ lo ≤ 1000000) ∧ (0 ≤ hi ∧ hi ≤ 1000000) ∧ 0 ≤ r ∧ r ≤ 1000000 := by
  rw [narE, askd_zero]
  simp only [inb, rg, Bool.and_eq_true, decide_eq_true_eq]
  constructor
  · rintro ⟨h0, ⟨⟨h1, h2⟩, h3⟩, h4⟩; exact ⟨h0, by omega, h2, h3, h4⟩
  · rintro ⟨h0, h1, h2, h3, h4⟩; exact ⟨h0, ⟨⟨by omega, h2⟩, h3⟩, h4⟩
def narLo (a : Arc) (lo r : Int) : Arc := if a.lo < lo then ⟨a.src, a.dst, lo, a.hi, r, a.hiBy⟩ else a
def narHi (a : Arc) (hi r : Int) : Arc := if hi < a.hi then ⟨a.src, a.dst, a.lo, hi, a.loBy, r⟩ else a
def nar1 (a : Arc) (lo hi r : Int) : Arc := narHi (narLo a lo r) hi r
/-- The net in which an arc is narrowed. -/
def nar (arcs : List Arc) (i : Nat) (lo hi r : Int) : List Arc := match arcs[i]? with | some a => arcs.set i (nar1 a lo hi r) | none => arcs
section
variable {arcs : List Arc} {i : Nat} {lo hi r : Int} {a : Arc}
theorem nar_of (ha : arcs[i]? = some a) : nar arcs i lo hi r = arcs.set i (nar1 a lo hi r) := by rw [nar, ha]
theorem nar00 (ha : arcs[i]? = some a) (h1 : ¬ a.lo < lo) (h2 : ¬ hi < a.hi) : arcs = nar arcs i lo hi r := by
  rw [nar_of ha, nar1, narLo, if_neg h1, narHi, if_neg h2, set_same ha]
theorem nar10 (ha : arcs[i]? = some a) (h1 : a.lo < lo) (h2 : ¬ hi < a.hi) : (arcs.set i ⟨a.src, a.dst, lo, a.hi, a.loBy, a.hiBy⟩).set i ⟨a.src, a.dst, lo, a.hi, r, a.hiBy⟩ = nar arcs i lo hi r := by
  rw [nar_of ha, nar1, narLo, if_pos h1, narHi, if_neg h2, List.set_set]
theorem nar01 (ha : arcs[i]? = some a) (h1 : ¬ a.lo < lo) (h2 : hi < a.hi) : (arcs.set i ⟨a.src, a.dst, a.lo, hi, a.loBy, a.hiBy⟩).set i ⟨a.src, a.dst, a.lo, hi, a.loBy, r⟩ = nar arcs i lo hi r := by
  rw [nar_of ha, nar1, narLo, if_neg h1, narHi, if_pos h2, List.set_set]
theorem nar11 (ha : arcs[i]? = some a) (h1 : a.lo < lo) (h2 : hi < a.hi) : (((arcs.set i ⟨a.src, a.dst, lo, a.hi, a.loBy, a.hiBy⟩).set i ⟨a.src, a.dst, lo, a.hi, r, a.hiBy⟩).set i ⟨a.src, a.dst, lo, hi, r, a.hiBy⟩).set i ⟨a.src, a.dst, lo, hi, r, r⟩ = nar arcs i lo hi r := by
  rw [nar_of ha, nar1, narLo, if_pos h1, narHi, if_pos h2, List.set_set, List.set_set, List.set_set]
end

/-! ### without a record -/

def wotE (N : Int) (arcs : List Arc) (r : Int) : Int := askd N arcs (decide (1 ≤ r ∧ r ≤ 1000000))
theorem wotE_zero {N : Int} {arcs : List Arc} {r : Int} : wotE N arcs r = 0 ↔ Valid N arcs ∧ 1 ≤ r ∧ r ≤ 1000000 := by
  rw [wotE, askd_zero, decide_eq_true_eq]
def wotLo (a : Arc) (r : Int) : Arc := if a.loBy = r then ⟨a.src, a.dst, 0, a.hi, 0, a.hiBy⟩ else a
def wotHi (a : Arc) (r : Int) : Arc := if a.hiBy = r then ⟨a.src, a.dst, a.lo, 1000000, a.loBy, 0⟩ else a
def wot1 (r : Int) (a : Arc) : Arc := wotHi (wotLo a r) r
def wot (arcs : List Arc) (r : Int) : List Arc := arcs.map (wot1 r)

/-- A list of which the first i elements are turned. -/
def prm {α : Type} (f : α → α) (l : List α) (i : Nat) : List α := (l.take i).map f ++ l.drop i
section
variable {α : Type} {f : α → α} {l : List α} {i : Nat} {a : α}
theorem prm_zero : prm f l 0 = l := by simp [prm]
theorem prm_full : prm f l l.length = l.map f := by simp [prm]
theorem prm_length : (prm f l i).length = l.length := by simp [prm]; omega
theorem prm_get (h : l[i]? = some a) : (prm f l i)[i]? = some a := by
  have hi := (List.getElem?_eq_some_iff.1 h).1
  have h1 : ((l.take i).map f).length = i := by rw [List.length_map, List.length_take]; omega
  rw [prm, List.getElem?_append_right (by omega), h1, Nat.sub_self, List.getElem?_drop]; exact h
theorem prm_step (h : l[i]? = some a) : (prm f l i).set i (f a) = prm f l (i + 1) := by
  obtain ⟨hi, rfl⟩ := List.getElem?_eq_some_iff.1 h
  have h1 : ((l.take i).map f).length = i := by rw [List.length_map, List.length_take]; omega
  rw [prm, prm, List.set_append_right i _ (by omega), h1, Nat.sub_self, List.drop_eq_getElem_cons hi, List.set_cons_zero, List.take_succ_eq_append_getElem hi, List.map_append, List.append_assoc]
  rfl
end
section
variable {r : Int} {a : Arc}
theorem wot00 (h1 : ¬ a.loBy = r) (h2 : ¬ a.hiBy = r) : wot1 r a = a := by rw [wot1, wotLo, if_neg h1, wotHi, if_neg h2]
theorem wot10 (h1 : a.loBy = r) (h2 : ¬ a.hiBy = r) : wot1 r a = ⟨a.src, a.dst, 0, a.hi, 0, a.hiBy⟩ := by rw [wot1, wotLo, if_pos h1, wotHi, if_neg h2]
theorem wot01 (h1 : ¬ a.loBy = r) (h2 : a.hiBy = r) : wot1 r a = ⟨a.src, a.dst, a.lo, 1000000, a.loBy, 0⟩ := by rw [wot1, wotLo, if_neg h1, wotHi, if_pos h2]
theorem wot11 (h1 : a.loBy = r) (h2 : a.hiBy = r) : wot1 r a = ⟨a.src, a.dst, 0, 1000000, 0, 0⟩ := by rw [wot1, wotLo, if_pos h1, wotHi, if_pos h2]
end

/-! ### joined -/

def joinE (N : Int) (arcs : List Arc) (M : Int) (brcs : List Arc) : Int :=
  if chk N arcs ≠ 0 then chk N arcs else if chk M brcs ≠ 0 then chk M brcs else if N ≠ M then 1 else if 4000 < (arcs.length : Int) + brcs.length then 2 else 0

/-! ### through -/

def inb2 (arcs : List Arc) (i : Nat) (k : Int) : Bool := match arcs[i]? with | some a => decide (a.lo ≤ k ∧ k ≤ a.hi) | none => false
/-- The net in which an arc has one amount alone. -/
def fix (arcs : List Arc) (i : Nat) (k : Int) : List Arc := match arcs[i]? with | some a => arcs.set i ⟨a.src, a.dst, k, k, a.loBy, a.hiBy⟩ | none => arcs
/-- What Through answers. -/
inductive ThR (N : Int) (arcs : List Arc) (i k : Int) : List Int → Bool → Int → Prop
  | bad : aski N arcs i ≠ 0 → ThR N arcs i k [] false (aski N arcs i)
  | out : aski N arcs i = 0 → inb2 arcs i.toNat k = false → ThR N arcs i k [] false 0
  | no : aski N arcs i = 0 → inb2 arcs i.toNat k = true → NoC N (fix arcs i.toNat k) → ThR N arcs i k [] false 0
  | yes {x : List Int} : aski N arcs i = 0 → inb2 arcs i.toNat k = true → Circ (fix arcs i.toNat k) x → ThR N arcs i k x true 0
theorem fix_valid {N : Int} {arcs : List Arc} {i : Nat} {k : Int} (hV : Valid N arcs) (hk : inb2 arcs i k = true) : Valid N (fix arcs i k) := by
  unfold fix
  unfold inb2 at hk
  cases ha : arcs[i]? with
  | none => rw [ha] at hk; exact hV
  | some a =>
    rw [ha] at hk
    have hk : a.lo ≤ k ∧ k ≤ a.hi := by simpa using hk
    have hok := hV.at ha
    refine ⟨hV.pos, hV.max, by rw [List.length_set]; exact hV.len, fun b hb => ?_⟩
    rcases List.mem_or_eq_of_mem_set hb with h | h
    · exact hV.ok b h
    · subst h; rw [okArc_iff]; simp only; omega
theorem ThR.of {N : Int} {arcs : List Arc} {i k : Int} {x : List Int} {e : Int} (h0 : aski N arcs i = 0) (hk : inb2 arcs i.toNat k = true) (h : SomeR N (fix arcs i.toNat k) x e) : ThR N arcs i k x (decide (e = 0)) 0 := by
  cases h with
  | bad hb => exact absurd (chk_zero.2 (fix_valid (aski_zero.1 h0).1 hk)) hb
  | no _ hn => exact .no h0 hk hn
  | yes _ hc => exact .yes h0 hk hc
end Go.Vk.Flow
