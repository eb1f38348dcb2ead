/- Nets, as plain mathematics, part 8: the laws. No program in sight. -/
import Derived.Test.YtddapgjjndbejaaVkFlowNet
namespace Go.Vk.Flow
open Go

/-- Is it a net of which the laws speak? -/
def smallB (N : Int) (n : Nat) : Bool := (decide ((n : Int) ≤ 120) && (decide (N ≤ 40) || decide (1000 < N))) || (decide (4000 < (n : Int)) && decide ((n : Int) ≤ 4010))
theorem smallB_le {N : Int} {n : Nat} (h : smallB N n = true) : n ≤ 4010 := by
  simp [smallB] at h; omega

/-! ### nets with the same ends -/

def Ends (a b : List Arc) : Prop := b.length = a.length ∧ ∀ (i : Nat) (x y : Arc), a[i]? = some x → b[i]? = some y → y.src = x.src ∧ y.dst = x.dst
theorem ex_ends : ∀ (a b : List Arc) (ys : List Int), Ends a b → ∀ v, ex b ys v = ex a ys v := by
  intro a
  induction a with
  | nil => intro b ys h v; cases b with
    | nil => rfl
    | cons => simp [Ends] at h
  | cons x a ih =>
    intro b ys h v
    cases b with
    | nil => simp [Ends] at h
    | cons y b =>
      cases ys with
      | nil => simp [ex]
      | cons z ys =>
        have h0 := h.2 0 x y rfl rfl
        have h1 : Ends a b := ⟨by simpa using h.1, fun i p q hp hq => h.2 (i + 1) p q (by simpa using hp) (by simpa using hq)⟩
        simp only [ex, ih b ys h1 v, h0.1, h0.2]

/-- The second net is no wider. -/
def Nrw (a b : List Arc) : Prop := b.length = a.length ∧ ∀ (i : Nat) (x y : Arc), a[i]? = some x → b[i]? = some y → (y.src = x.src ∧ y.dst = x.dst) ∧ x.lo ≤ y.lo ∧ y.hi ≤ x.hi
theorem Nrw.ends {a b : List Arc} (h : Nrw a b) : Ends a b := ⟨h.1, fun i x y hx hy => (h.2 i x y hx hy).1⟩
theorem Nrw.circ {a b : List Arc} {x : List Int} (h : Nrw a b) (hc : Circ b x) : Circ a x := by
  refine ⟨⟨hc.bds.1.trans h.1, fun i p y hp hy => ?_⟩, fun v => by rw [← ex_ends a b x h.ends v]; exact hc.zero v⟩
  obtain ⟨q, hq⟩ : ∃ q, b[i]? = some q := ⟨_, List.getElem?_eq_getElem (by rw [h.1]; exact (List.getElem?_eq_some_iff.1 hp).1)⟩
  have h1 := h.2 i p q hp hq
  have h2 := hc.bds.2 i q y hq hy
  omega

/-! ### narrowed nets -/
section
variable {N : Int} {arcs : List Arc} {i lo hi r : Int}
theorem nar1_nrw (a : Arc) (lo hi r : Int) : ((nar1 a lo hi r).src = a.src ∧ (nar1 a lo hi r).dst = a.dst) ∧ a.lo ≤ (nar1 a lo hi r).lo ∧ (nar1 a lo hi r).hi ≤ a.hi := by
  unfold nar1 narHi narLo
  split <;> rename_i h1 <;> split <;> rename_i h2 <;> simp at * <;> omega
theorem nar_nrw (arcs : List Arc) (j : Nat) (lo hi r : Int) : Nrw arcs (nar arcs j lo hi r) := by
  unfold nar
  cases ha : arcs[j]? with
  | none => exact ⟨rfl, fun k x y hx hy => by simp only at hy; rw [hx] at hy; cases hy; exact ⟨⟨rfl, rfl⟩, Int.le_refl _, Int.le_refl _⟩⟩
  | some a =>
    refine ⟨List.length_set .., fun k x y hx hy => ?_⟩
    simp only at hy
    rw [List.getElem?_set] at hy
    split at hy
    · rename_i e
      subst e
      rw [ha] at hx
      cases hx
      split at hy
      · cases hy; exact nar1_nrw ..
      · cases hy
    · rw [hx] at hy; cases hy; exact ⟨⟨rfl, rfl⟩, Int.le_refl _, Int.le_refl _⟩
theorem nar_valid (h : narE N arcs i lo hi r = 0) : Valid N (nar arcs i.toNat lo hi r) := by
  obtain ⟨hV, hi0, hl, hh, hr⟩ := narE_zero.1 h
  unfold nar
  cases ha : arcs[i.toNat]? with
  | none => exact hV
  | some a =>
    have hok := hV.at ha
    refine ⟨hV.pos, hV.max, by rw [List.length_set]; exact hV.len, fun b hb => ?_⟩
    rcases List.mem_or_eq_of_mem_set hb with h1 | h1
    · exact hV.ok b h1
    · subst h1
      rw [okArc_iff]
      unfold nar1 narHi narLo
      split <;> rename_i h1 <;> split <;> rename_i h2 <;> simp at * <;> omega
theorem nar_len : (nar arcs i.toNat lo hi r).length = arcs.length := (nar_nrw arcs i.toNat lo hi r).1
theorem askd_valid {arcs : List Arc} (hV : Valid N arcs) (p : Bool) : askd N arcs p = if p = true then 0 else 1 := by rw [askd, if_neg (fun h => h (chk_zero.2 hV))]
theorem nar_askd (h : narE N arcs i lo hi r = 0) (x : List Int) : askd N (nar arcs i.toNat lo hi r) (row x (nar arcs i.toNat lo hi r).length 0 1000000) = askd N arcs (row x arcs.length 0 1000000) := by
  rw [askd_valid (nar_valid h), askd_valid (narE_zero.1 h).1, nar_len]
theorem keptE {N : Int} {arcs : List Arc} {x : List Int} : (decide (askd N arcs (row x arcs.length 0 1000000) = 0) && kept 1000 arcs x) = true ↔ Valid N arcs ∧ Circ arcs x := by
  rw [Bool.and_eq_true, decide_eq_true_eq, askd_zero]
  constructor
  · rintro ⟨⟨hV, hr⟩, hk⟩
    exact ⟨hV, (kept_iff hV (row_amts.1 hr).len).1 hk⟩
  · rintro ⟨hV, hc⟩
    exact ⟨⟨hV, row_amts.2 (hc.amts hV)⟩, (kept_iff hV hc.bds.1).2 hc⟩
theorem nar_kept (h : narE N arcs i lo hi r = 0) {x : List Int} (hk : (decide (askd N (nar arcs i.toNat lo hi r) (row x (nar arcs i.toNat lo hi r).length 0 1000000) = 0) && kept 1000 (nar arcs i.toNat lo hi r) x) = true) :
    (decide (askd N arcs (row x arcs.length 0 1000000) = 0) && kept 1000 arcs x) = true :=
  keptE.2 ⟨(narE_zero.1 h).1, (nar_nrw ..).circ (keptE.1 hk).2⟩
/-- A net no wider has no greater sum. -/
theorem GrR.narrow {a b : List Arc} {wl x p y q : List Int} {n m j k : Int} (hn : Nrw a b) (hV : Valid N a) (h1 : GrR N a wl n x p j) (h2 : GrR N b wl m y q k) (hk : k = 0) : j = 0 ∧ m ≤ n := by
  cases h2 with
  | bad h => exact absurd hk h
  | no => exact absurd hk (by decide)
  | yes _ hw2 ho2 =>
    have hw : Wts a wl := ⟨hw2.len.trans hn.1, hw2.bd⟩
    have hc := hn.circ ho2.circ
    cases h1 with
    | bad h => exact absurd (askw_zero.2 ⟨hV, hw⟩) h
    | no _ _ h => exact (h.no hV hc).elim
    | yes _ _ ho1 => exact ⟨rfl, ho1.max hV hw.len hc⟩
theorem RaR.narrow {a b : List Arc} {o c d c' d' q r : Int} (hn : Nrw a b) (hV : Valid N a) (h1 : RaR N a o c d q) (h2 : RaR N b o c' d' r) (hr : r = 0) : q = 0 ∧ c ≤ c' ∧ d' ≤ d := by
  cases h2 with
  | bad h => exact absurd hr h
  | no => exact absurd hr (by decide)
  | yes h0 o1 o2 =>
    have hb := aski_zero.1 h0
    have h3 : aski N a o = 0 := aski_zero.2 ⟨hV, hb.2.1, by have := hb.2.2; have := hn.1; omega⟩
    have c1 := hn.circ o1.circ
    have c2 := hn.circ o2.circ
    have hl : o.toNat < a.length := by have := hb.2.2; have := hn.1; omega
    cases h1 with
    | bad h => exact absurd h3 h
    | no _ h => exact (h.no hV c1).elim
    | yes _ p1 p2 =>
      have m1 := p1.max hV (unit_length ..) c1
      have m2 := p2.max hV (unit_length ..) c2
      rw [p1.unit_eq hl, dot_unit _ _ _ hl (nth_get (by rw [c1.bds.1]; exact hl))] at m1
      rw [p2.unit_eq hl, dot_unit _ _ _ hl (nth_get (by rw [c2.bds.1]; exact hl))] at m2
      exact ⟨rfl, by omega, by omega⟩
end
end Go.Vk.Flow
