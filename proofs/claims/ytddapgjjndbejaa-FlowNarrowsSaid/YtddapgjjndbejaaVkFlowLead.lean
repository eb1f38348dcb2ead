/- Nets, as plain mathematics, part 3: what is led along a cheapest way. No program in sight. -/
import Derived.Test.YtddapgjjndbejaaVkFlowAlg
namespace Go.Vk.Flow
open Go

/-- Amounts between the bounds of their arcs. -/
def Bds (arcs : List Arc) (x : List Int) : Prop := x.length = arcs.length ∧ ∀ (i : Nat) (a : Arc) (y : Int), arcs[i]? = some a → x[i]? = some y → a.lo ≤ y ∧ y ≤ a.hi

/-- The state of a net with amounts: no step has a cost below 0. -/
structure Cn (N : Int) (arcs : List Arc) (wl : List Int) (x : List Int) (mo p : Nat → Int) : Prop where
  bds : Bds arcs x
  meq : mo = ex arcs x
  red : ∀ s, s ∈ stps p 0 arcs x wl → 0 ≤ s.cost
  pb : ∀ v, 0 ≤ p v ∧ p v ≤ 1000000
  pz : ∀ v, v < N.toNat → 0 < mo v → p v = 0
  pd : ∃ D, (∀ v, p v ≤ D) ∧ ∀ v, v < N.toNat → mo v < 0 → p v = D

section
variable {N : Int} {arcs : List Arc} {wl x : List Int} {mo p : Nat → Int}

theorem Cn.amts (h : Cn N arcs wl x mo p) (hV : Valid N arcs) : Amts arcs x := by
  refine ⟨h.bds.1, fun y hy => ?_⟩
  obtain ⟨i, hi, rfl⟩ := List.mem_iff_getElem.1 hy
  obtain ⟨a, ha⟩ : ∃ a, arcs[i]? = some a := ⟨_, List.getElem?_eq_getElem (by rw [← h.bds.1]; exact hi)⟩
  have h1 := h.bds.2 i a _ ha (List.getElem?_eq_getElem hi)
  have h2 := hV.at ha
  omega

theorem Cn.cost (h : Cn N arcs wl x mo p) (hw : Wts arcs wl) : ∀ s, s ∈ stps p 0 arcs x wl → 0 ≤ s.cost ∧ s.cost ≤ 2000000 := by
  intro s hs
  refine ⟨h.red s hs, ?_⟩
  obtain ⟨i, a, y, q, _, _, hq, hs1⟩ := mem_stps hs
  have hqb := hw.at hq
  have h1 := h.pb a.src.toNat
  have h2 := h.pb a.dst.toNat
  rcases mem_stp1.1 hs1 with ⟨_, rfl⟩ | ⟨_, rfl⟩ <;> simp only [fwd, bwd, cst] <;> omega

/-- A step's ends, and its cost, by the costs of its nodes. -/
theorem step_cost (hw : Wts arcs wl) {s : Stp} (hs : s ∈ stps p 0 arcs x wl) : ∃ d : Int, -1000 ≤ d ∧ d ≤ 1000 ∧ ∀ p' : Nat → Int, ∃ c', (⟨s.arc, s.back, s.src, s.dst, c'⟩ : Stp) ∈ stps p' 0 arcs x wl ∧ c' = p' s.src.toNat - p' s.dst.toNat + d ∧ (p' = p → c' = s.cost) := by
  obtain ⟨i, a, y, q, ha, hy, hq, hs1⟩ := mem_stps hs
  have hqb := hw.at hq
  rw [Nat.zero_add] at hs1
  rcases mem_stp1.1 hs1 with ⟨h1, rfl⟩ | ⟨h1, rfl⟩
  · exact ⟨-q, by omega, by omega, fun p' => ⟨cst p' a q, mem_stps_of ha hy hq (mem_stp1.2 (.inl ⟨h1, rfl⟩)), by simp only [cst, fwd]; omega, fun e => by subst e; rfl⟩⟩
  · exact ⟨q, by omega, by omega, fun p' => ⟨-cst p' a q, mem_stps_of ha hy hq (mem_stp1.2 (.inr ⟨h1, rfl⟩)), by simp only [cst, bwd]; omega, fun e => by subst e; rfl⟩⟩

variable {cost : List Int} {last : List Stp} {rk : Nat → Nat}

/-- A node's cost is bounded by the length of the way to it. -/
theorem way_bd (h : Cn N arcs wl x mo p) (hV : Valid N arcs) (hw : Wts arcs wl) (hn : Nearest N.toNat (stps p 0 arcs x wl) mo cost last rk) :
    ∀ (r v : Nat), rk v ≤ r → v < N.toNat → nth cost v < far → p v + nth cost v ≤ 1000 * rk v := by
  intro r
  induction r with
  | zero =>
    intro v hr hv hf
    obtain ⟨s, hs⟩ : ∃ s, last[v]? = some s := ⟨_, List.getElem?_eq_getElem (by rw [hn.ll]; exact hv)⟩
    rcases hn.fin v hv hf s hs with ⟨_, h2, h3⟩ | ⟨_, _, _, _, _, h6⟩
    · have := h.pz v hv h3; omega
    · omega
  | succ r ih =>
    intro v hr hv hf
    obtain ⟨s, hs⟩ : ∃ s, last[v]? = some s := ⟨_, List.getElem?_eq_getElem (by rw [hn.ll]; exact hv)⟩
    rcases hn.fin v hv hf s hs with ⟨_, h2, h3⟩ | ⟨_, h2, h3, h4, h5, h6⟩
    · have := h.pz v hv h3; omega
    · have hok := stps_ok hV h2
      have h7 := ih s.src.toNat (by omega) (by omega) h4
      obtain ⟨d, d1, d2, hd⟩ := step_cost hw h2
      obtain ⟨c', _, hc, he⟩ := hd p
      have := he rfl
      have hv' : s.dst.toNat = v := by omega
      rw [hv'] at hc
      omega

/-- The costs of nodes behind a search. -/
def nextp (n : Nat) (cost : List Int) (K : Int) (p : Nat → Int) : Nat → Int := fun v => if v < n then p v + min (nth cost v) K else p v

theorem nextp_red (h : Cn N arcs wl x mo p) (hV : Valid N arcs) (hw : Wts arcs wl) (hn : Nearest N.toNat (stps p 0 arcs x wl) mo cost last rk) {K : Int} (hK : K < far) :
    ∀ s, s ∈ stps (nextp N.toNat cost K p) 0 arcs x wl → 0 ≤ s.cost := by
  intro s hs
  have hok := stps_ok hV hs
  obtain ⟨d, _, _, hd⟩ := step_cost hw hs
  obtain ⟨c, hc1, hc2, _⟩ := hd p
  obtain ⟨c', _, hc4, hc5⟩ := hd (nextp N.toNat cost K p)
  have hc6 := hc5 rfl
  have hcost := h.red _ hc1
  have h1 : s.src.toNat < N.toNat := by omega
  have h2 : s.dst.toNat < N.toNat := by omega
  simp only [nextp, h1, h2, if_true] at hc4
  simp only at hcost
  by_cases hf : nth cost s.src.toNat < far
  · have := hn.relaxed _ hc1 hf
    simp only at this
    omega
  · have h3 := hn.big _ h1
    omega

/-- The steps of the way are tight behind the search. -/
theorem nextp_tight (h : Cn N arcs wl x mo p) (hV : Valid N arcs) (hw : Wts arcs wl) (hn : Nearest N.toNat (stps p 0 arcs x wl) mo cost last rk) {K : Int} {v : Nat} {s : Stp} (hv : v < N.toNat) (hf : nth cost v < far) (hvK : nth cost v ≤ K)
    (hs : last[v]? = some s) (ha : 0 ≤ s.arc) : nth cost s.src.toNat ≤ K ∧ (⟨s.arc, s.back, s.src, s.dst, 0⟩ : Stp) ∈ stps (nextp N.toNat cost K p) 0 arcs x wl := by
  rcases hn.fin v hv hf s hs with ⟨h1, _⟩ | ⟨_, h2, h3, h4, h5, h6⟩
  · omega
  · have hok := stps_ok hV h2
    have hc0 := h.red s h2
    refine ⟨by omega, ?_⟩
    obtain ⟨d, _, _, hd⟩ := step_cost hw h2
    obtain ⟨c, _, hc2, hc3⟩ := hd p
    obtain ⟨c', hc4, hc5, _⟩ := hd (nextp N.toNat cost K p)
    have hc6 := hc3 rfl
    have h1 : s.src.toNat < N.toNat := by omega
    have h2' : s.dst.toNat < N.toNat := by omega
    have hv' : s.dst.toNat = v := by omega
    simp only [nextp, h1, h2', if_true] at hc5
    rw [hv'] at hc5 hc2
    have : c' = 0 := by omega
    subst this
    exact hc4
end

/-- The cheapest of the nodes below i of which P holds (-1: none). -/
def Mp (cost : List Int) (Q : Nat → Prop) (i : Nat) (v : Int) : Prop :=
  (v = -1 ∧ ∀ u, u < i → Q u → ¬ nth cost u < far) ∨ ∃ v0 : Nat, v = (v0 : Int) ∧ v0 < i ∧ Q v0 ∧ nth cost v0 < far ∧ ∀ u, u < i → Q u → nth cost v0 ≤ nth cost u
section
variable {cost : List Int} {Q : Nat → Prop} {i : Nat} {v : Int}
theorem Mp.zero : Mp cost Q 0 (-1) := .inl ⟨rfl, fun u h => absurd h (Nat.not_lt_zero u)⟩
theorem Mp.lt (h : Mp cost Q i v) : -1 ≤ v ∧ v < i := by
  rcases h with ⟨rfl, _⟩ | ⟨v0, rfl, h1, _⟩ <;> omega
theorem Mp.skip (h : Mp cost Q i v) (hq : ¬ Q i) : Mp cost Q (i + 1) v := by
  have key : ∀ u, u < i + 1 → Q u → u < i := fun u hu hqu => by
    have : u ≠ i := fun e => hq (e ▸ hqu)
    omega
  rcases h with ⟨h1, h2⟩ | ⟨v0, h1, h2, h3, h4, h5⟩
  · exact .inl ⟨h1, fun u hu hqu => h2 u (key u hu hqu) hqu⟩
  · exact .inr ⟨v0, h1, by omega, h3, h4, fun u hu hqu => h5 u (key u hu hqu) hqu⟩
theorem Mp.skipF (h : Mp cost Q i v) (hf : ¬ nth cost i < far) : Mp cost Q (i + 1) v := by
  rcases h with ⟨h1, h2⟩ | ⟨v0, h1, h2, h3, h4, h5⟩
  · refine .inl ⟨h1, fun u hu hqu => ?_⟩
    rcases Nat.lt_or_ge u i with hu' | hu'
    · exact h2 u hu' hqu
    · have : u = i := by omega
      subst this; exact hf
  · refine .inr ⟨v0, h1, by omega, h3, h4, fun u hu hqu => ?_⟩
    rcases Nat.lt_or_ge u i with hu' | hu'
    · exact h5 u hu' hqu
    · have : u = i := by omega
      subst this; omega
theorem Mp.keep (h : Mp cost Q i v) (hv : ¬ v < 0) (hc : ¬ nth cost i < nth cost v.toNat) : Mp cost Q (i + 1) v := by
  rcases h with ⟨h1, h2⟩ | ⟨v0, h1, h2, h3, h4, h5⟩
  · omega
  · subst h1
    refine .inr ⟨v0, rfl, by omega, h3, h4, fun u hu hqu => ?_⟩
    rcases Nat.lt_or_ge u i with hu' | hu'
    · exact h5 u hu' hqu
    · have : u = i := by omega
      subst this
      rw [Int.toNat_natCast] at hc; omega
theorem Mp.take1 (h : Mp cost Q i v) (hv : v < 0) (hq : Q i) (hf : nth cost i < far) : Mp cost Q (i + 1) (i : Int) := by
  rcases h with ⟨h1, h2⟩ | ⟨v0, h1, _⟩
  · refine .inr ⟨i, rfl, by omega, hq, hf, fun u hu hqu => ?_⟩
    rcases Nat.lt_or_ge u i with hu' | hu'
    · have := h2 u hu' hqu; omega
    · have : u = i := by omega
      subst this; exact Int.le_refl _
  · omega
theorem Mp.take2 (h : Mp cost Q i v) (hv : ¬ v < 0) (hq : Q i) (hf : nth cost i < far) (hc : nth cost i < nth cost v.toNat) : Mp cost Q (i + 1) (i : Int) := by
  rcases h with ⟨h1, h2⟩ | ⟨v0, h1, h2, h3, h4, h5⟩
  · omega
  · subst h1
    rw [Int.toNat_natCast] at hc
    refine .inr ⟨i, rfl, by omega, hq, hf, fun u hu hqu => ?_⟩
    rcases Nat.lt_or_ge u i with hu' | hu'
    · have := h5 u hu' hqu; omega
    · have : u = i := by omega
      subst this; exact Int.le_refl _
end

theorem nextp_zero {cost : List Int} {K : Int} {p : Nat → Int} : nextp 0 cost K p = p := by funext v; simp [nextp]
theorem nextp_step {cost : List Int} {K : Int} {p : Nat → Int} {i : Nat} : upf (nextp i cost K p) i (nextp i cost K p i + min (nth cost i) K) = nextp (i + 1) cost K p := by
  funext v
  simp only [upf, nextp]
  by_cases e : v = i
  · subst e; simp
  · by_cases c : v < i
    · have : v < i + 1 := by omega
      simp [e, c, this]
    · have : ¬ v < i + 1 := by omega
      simp [e, c, this]

/-- Back along the way. -/
inductive Trail (last : List Stp) : Nat → Nat → Prop
  | refl (v : Nat) : Trail last v v
  | step {v u : Nat} {s : Stp} : last[v]? = some s → 0 ≤ s.arc → Trail last s.src.toNat u → Trail last v u

theorem Trail.snoc {last : List Stp} {v u : Nat} (h : Trail last v u) {s : Stp} (hs : last[u]? = some s) (ha : 0 ≤ s.arc) : Trail last v s.src.toNat := by
  induction h with
  | refl v => exact .step hs ha (.refl _)
  | step h1 h2 _ ih => exact .step h1 h2 (ih hs)
theorem Trail.stop {last : List Stp} {v u : Nat} (h : Trail last v u) {s : Stp} (hs : last[v]? = some s) (ha : s.arc < 0) : u = v := by
  cases h with
  | refl => rfl
  | step h1 h2 _ => rw [hs] at h1; cases h1; omega
theorem Trail.split {last : List Stp} {v u : Nat} (h : Trail last v u) {s : Stp} (hs : last[v]? = some s) : u = v ∨ Trail last s.src.toNat u := by
  cases h with
  | refl => exact .inl rfl
  | step h1 h2 h3 => rw [hs] at h1; cases h1; exact .inr h3

section
variable {N : Int} {arcs : List Arc} {wl x : List Int} {mo p : Nat → Int} {cost : List Int} {last : List Stp} {rk : Nat → Nat} {st : List Stp} {n : Nat}
theorem Trail.facts (hn : Nearest n st mo cost last rk) (hst : ∀ s, s ∈ st → 0 ≤ s.src ∧ s.src < n ∧ 0 ≤ s.cost) {v u : Nat} (h : Trail last v u) : v < n → nth cost v < far → u < n ∧ nth cost u < far ∧ nth cost u ≤ nth cost v ∧ rk u ≤ rk v := by
  induction h with
  | refl v => intro h1 h2; exact ⟨h1, h2, Int.le_refl _, Nat.le_refl _⟩
  | step h1 h2 _ ih =>
    intro hv hf
    rcases hn.fin _ hv hf _ h1 with ⟨h3, _⟩ | ⟨_, h4, h5, h6, h7, h8⟩
    · omega
    · have h9 := hst _ h4
      have h10 := ih (by omega) h6
      exact ⟨h10.1, h10.2.1, by omega, by omega⟩

/-- How much more a step carries. -/
def ResOk (arcs : List Arc) (x : List Int) (much : Int) (s : Stp) : Prop :=
  ∀ (a : Arc) (y : Int), arcs[s.arc.toNat]? = some a → x[s.arc.toNat]? = some y → (s.back = true → much ≤ y - a.lo) ∧ (s.back = false → much ≤ a.hi - y)
theorem ResOk.le {much much' : Int} {s : Stp} (h : ResOk arcs x much s) (hm : much' ≤ much) : ResOk arcs x much' s := fun a y ha hy => by
  obtain ⟨h1, h2⟩ := h a y ha hy
  exact ⟨fun hb => by have := h1 hb; omega, fun hb => by have := h2 hb; omega⟩

theorem ResOk.of {much : Int} {s : Stp} {a : Arc} {y : Int} (ha : arcs[s.arc.toNat]? = some a) (hy : x[s.arc.toNat]? = some y) (h1 : s.back = true → much ≤ y - a.lo) (h2 : s.back = false → much ≤ a.hi - y) : ResOk arcs x much s := by
  intro a' y' ha' hy'
  have e1 : a' = a := Option.some.inj (ha'.symm.trans ha)
  have e2 : y' = y := Option.some.inj (hy'.symm.trans hy)
  subst e1; subst e2
  exact ⟨h1, h2⟩
/-- What a step's arc is, and that it carries more. -/
theorem step_arc {s : Stp} (h : s ∈ stps p 0 arcs x wl) : ∃ a y, arcs[s.arc.toNat]? = some a ∧ x[s.arc.toNat]? = some y ∧
    ((s.back = true ∧ a.lo < y ∧ s.src = a.dst ∧ s.dst = a.src) ∨ (s.back = false ∧ y < a.hi ∧ s.src = a.src ∧ s.dst = a.dst)) := by
  obtain ⟨i, a, y, q, ha, hy, hq, hs1⟩ := mem_stps h
  rw [Nat.zero_add] at hs1
  rcases mem_stp1.1 hs1 with ⟨h1, rfl⟩ | ⟨h1, rfl⟩
  · exact ⟨a, y, ha, hy, .inr ⟨rfl, h1, rfl, rfl⟩⟩
  · exact ⟨a, y, ha, hy, .inl ⟨rfl, h1, rfl, rfl⟩⟩

/-- No two steps of a way go along one arc. -/
theorem way_inj (hV : Valid N arcs) (hn : Nearest N.toNat (stps p 0 arcs x wl) mo cost last rk) (hst : ∀ s, s ∈ stps p 0 arcs x wl → 0 ≤ s.cost) {at_ v : Nat} {s t : Stp} (hv : at_ < N.toNat) (hf : nth cost at_ < far)
    (hs : last[at_]? = some s) (ha : 0 ≤ s.arc) (hr : Trail last s.src.toNat v) (ht : last[v]? = some t) : t.arc ≠ s.arc := by
  intro e
  rcases hn.fin _ hv hf _ hs with ⟨h3, _⟩ | ⟨_, h4, h5, h6, h7, h8⟩
  · omega
  · have hok := stps_ok hV h4
    have hst' : ∀ s, s ∈ stps p 0 arcs x wl → 0 ≤ s.src ∧ s.src < N.toNat ∧ 0 ≤ s.cost := fun s hs => by
      have h1 := stps_ok hV hs; have h2 := hst s hs; omega
    obtain ⟨k1, k2, _, k4⟩ := hr.facts hn hst' (by omega) h6
    rcases hn.fin _ k1 k2 _ ht with ⟨h3, _⟩ | ⟨_, m4, m5, m6, m7, m8⟩
    · omega
    · have hokt := stps_ok hV m4
      obtain ⟨a, y, b1, b2, b3⟩ := step_arc h4
      obtain ⟨a', y', c1, c2, c3⟩ := step_arc m4
      rw [e] at c1
      have : a' = a := Option.some.inj (c1.symm.trans b1)
      subst this
      rcases b3 with ⟨_, _, g1, g2⟩ | ⟨_, _, g1, g2⟩ <;> rcases c3 with ⟨_, _, f1, f2⟩ | ⟨_, _, f1, f2⟩
      · have : v = at_ := by omega
        subst this; omega
      · have e1 : t.src.toNat = at_ := by omega
        rw [e1] at m8; omega
      · have e1 : t.src.toNat = at_ := by omega
        rw [e1] at m8; omega
      · have : v = at_ := by omega
        subst this; omega
end

theorem ex_set : ∀ (as : List Arc) (ys : List Int) (i : Nat) (a : Arc) (y z : Int) (v : Nat), as[i]? = some a → ys[i]? = some y → ex as (ys.set i z) v = ex as ys v + ((if a.dst = v then z - y else 0) - (if a.src = v then z - y else 0)) := by
  intro as
  induction as with
  | nil => intro ys i a y z v h; simp at h
  | cons b as ih =>
    intro ys i a y z v h1 h2
    cases ys with
    | nil => simp at h2
    | cons u ys =>
      cases i with
      | zero =>
        simp at h1 h2; subst h1; subst h2
        simp only [List.set_cons_zero, ex]
        split <;> split <;> omega
      | succ i =>
        simp only [List.set_cons_succ, ex, ih ys i a y z v (by simpa using h1) (by simpa using h2)]
        omega

/-- While what is led is laid on the steps of the way, from its end. -/
structure Aug (arcs : List Arc) (wl x : List Int) (much : Int) (p' : Nat → Int) (last : List Stp) (to at_ : Nat) (x' : List Int) : Prop where
  len : x'.length = x.length
  same : ∀ v t, Trail last at_ v → last[v]? = some t → 0 ≤ t.arc → x'[t.arc.toNat]? = x[t.arc.toNat]?
  exq : ∀ v : Nat, ex arcs x' v = ex arcs x v + (if v = to then much else 0) - (if v = at_ then much else 0)
  bds : Bds arcs x'
  red : ∀ s, s ∈ stps p' 0 arcs x' wl → 0 ≤ s.cost

section
variable {N : Int} {arcs : List Arc} {wl x x' : List Int} {mo p p' : Nat → Int} {cost : List Int} {last : List Stp} {rk : Nat → Nat} {to at_ : Nat} {much : Int}

theorem Aug.start (hb : Bds arcs x) (hr : ∀ s, s ∈ stps p' 0 arcs x wl → 0 ≤ s.cost) : Aug arcs wl x much p' last to to x :=
  ⟨rfl, fun _ _ _ _ _ => rfl, fun v => by split <;> omega, hb, hr⟩

theorem Aug.step (h : Aug arcs wl x much p' last to at_ x') (hV : Valid N arcs) {s : Stp} {y : Int} (hs : last[at_]? = some s) (ha : 0 ≤ s.arc) (hm : 0 ≤ much)
    (hin : s ∈ stps p 0 arcs x wl) (hdst : s.dst = (at_ : Int)) (htight : (⟨s.arc, s.back, s.src, s.dst, 0⟩ : Stp) ∈ stps p' 0 arcs x wl) (hres : ResOk arcs x much s)
    (hinj : ∀ v t, Trail last s.src.toNat v → last[v]? = some t → 0 ≤ t.arc → t.arc ≠ s.arc) (hy : x'[s.arc.toNat]? = some y) {z : Int} (hz : (s.back = true ∧ z = y - much) ∨ (s.back = false ∧ z = y + much)) :
    Aug arcs wl x much p' last to s.src.toNat (x'.set s.arc.toNat z) := by
  have hok := stps_ok hV hin
  obtain ⟨a, y0, ha0, hy0, hcase⟩ := step_arc hin
  have hyy : y0 = y := by
    have := h.same at_ s (.refl _) hs ha
    rw [hy, hy0] at this
    exact (Option.some.inj this).symm
  subst hyy
  have hil := (List.getElem?_eq_some_iff.1 hy).1
  have hr0 := hres a y0 ha0 hy0
  have hb0 := h.bds.2 _ a y0 ha0 hy
  refine ⟨by rw [List.length_set]; exact h.len, fun v t hv ht hta => ?_, fun v => ?_, ⟨by rw [List.length_set]; exact h.bds.1, fun i b u hbi hui => ?_⟩, fun t ht => ?_⟩
  · have hne := hinj v t hv ht hta
    have hok2 : s.arc.toNat ≠ t.arc.toNat := by omega
    rw [List.getElem?_set_ne hok2]
    exact h.same v t (.step hs ha hv) ht hta
  · rw [ex_set arcs x' s.arc.toNat a y0 z v ha0 hy, h.exq v]
    have e1 : (a.dst = (v : Int)) ↔ v = a.dst.toNat := by have := hV.at ha0; omega
    have e2 : (a.src = (v : Int)) ↔ v = a.src.toNat := by have := hV.at ha0; omega
    simp only [e1, e2]
    rcases hcase with ⟨hb, _, g1, g2⟩ | ⟨hb, _, g1, g2⟩ <;> rcases hz with ⟨hb2, rfl⟩ | ⟨hb2, rfl⟩
    · have f1 : s.src.toNat = a.dst.toNat := by omega
      have f2 : at_ = a.src.toNat := by omega
      rw [f1, f2]
      by_cases c1 : v = a.dst.toNat <;> by_cases c2 : v = a.src.toNat <;> simp only [c1, c2, if_true, if_false] <;> split <;> omega
    · rw [hb] at hb2; cases hb2
    · rw [hb] at hb2; cases hb2
    · have f1 : s.src.toNat = a.src.toNat := by omega
      have f2 : at_ = a.dst.toNat := by omega
      rw [f1, f2]
      by_cases c1 : v = a.dst.toNat <;> by_cases c2 : v = a.src.toNat <;> simp only [c1, c2, if_true, if_false] <;> split <;> omega
  · rw [List.getElem?_set] at hui
    by_cases e : s.arc.toNat = i
    · subst e
      simp only [hil, if_true] at hui
      have hu : u = z := (Option.some.inj hui).symm
      have hba : b = a := Option.some.inj (hbi.symm.trans ha0)
      subst hu; subst hba
      rcases hz with ⟨hb2, rfl⟩ | ⟨hb2, rfl⟩
      · have := hr0.1 hb2; omega
      · have := hr0.2 hb2; omega
    · simp only [e, if_false] at hui
      exact h.bds.2 i b u hbi hui
  · obtain ⟨i, b, u, q, hbi, hui, hq, ht1⟩ := mem_stps ht
    rw [Nat.zero_add] at ht1
    rw [List.getElem?_set] at hui
    by_cases e : s.arc.toNat = i
    · subst e
      have hba : b = a := Option.some.inj (hbi.symm.trans ha0)
      subst hba
      obtain ⟨j, b2, u2, q2, k1, k2, k3, k4⟩ := mem_stps htight
      rw [Nat.zero_add] at k4
      have hj : j = s.arc.toNat ∧ cst p' b2 q2 = 0 := by
        rcases mem_stp1.1 k4 with ⟨_, e4⟩ | ⟨_, e4⟩
        · simp only [fwd, Stp.mk.injEq] at e4
          exact ⟨by omega, e4.2.2.2.2.symm⟩
        · simp only [bwd, Stp.mk.injEq] at e4
          exact ⟨by omega, by omega⟩
      obtain ⟨rfl, hz0⟩ := hj
      have e5 : b2 = b := Option.some.inj (k1.symm.trans hbi)
      have e6 : q2 = q := Option.some.inj (k3.symm.trans hq)
      subst e5; subst e6
      rcases mem_stp1.1 ht1 with ⟨_, rfl⟩ | ⟨_, rfl⟩ <;> simp only [fwd, bwd] <;> omega
    · simp only [e, if_false] at hui
      exact h.red t (mem_stps_of hbi hui hq ht1)

/-- How much too much there is. -/
def tot (mo : Nat → Int) : Nat := ((List.range 1000).map fun v => (mo v).toNat).sum
theorem sum_lt {f g : Nat → Nat} (hle : ∀ v, f v ≤ g v) {u : Nat} : ∀ {l : List Nat}, u ∈ l → f u < g u → (l.map f).sum < (l.map g).sum := by
  intro l
  induction l with
  | nil => intro h; cases h
  | cons w l ih =>
    intro hu hlt
    have hsum : ∀ l : List Nat, (l.map f).sum ≤ (l.map g).sum := by
      intro l
      induction l with
      | nil => simp
      | cons a l ih => have := hle a; simp only [List.map_cons, List.sum_cons]; omega
    have h1 := hle w
    have h2 := hsum l
    simp only [List.map_cons, List.sum_cons]
    rcases List.mem_cons.1 hu with rfl | hu
    · omega
    · have := ih hu hlt; omega

/-- Behind the leading. -/
theorem Cn.led (h : Cn N arcs wl x mo p) (hV : Valid N arcs) (hw : Wts arcs wl) (hn : Nearest N.toNat (stps p 0 arcs x wl) mo cost last rk) {from_ : Nat} (hto : to < N.toNat) (htd : mo to < 0) (htf : nth cost to < far)
    (hmin : ∀ u, u < N.toNat → mo u < 0 → nth cost to ≤ nth cost u) (hfr : from_ < N.toNat) (hfs : 0 < mo from_) (hm : 0 < much ∧ much ≤ -mo to ∧ much ≤ mo from_)
    (hA : Aug arcs wl x much (nextp N.toNat cost (nth cost to) p) last to from_ x') :
    Cn N arcs wl x' (upf (upf mo from_ (mo from_ - much)) to (upf mo from_ (mo from_ - much) to + much)) (nextp N.toNat cost (nth cost to) p) ∧
      tot (upf (upf mo from_ (mo from_ - much)) to (upf mo from_ (mo from_ - much) to + much)) < tot mo := by
  have hne : to ≠ from_ := fun e => by rw [e] at htd; omega
  have hmo : ∀ v, upf (upf mo from_ (mo from_ - much)) to (upf mo from_ (mo from_ - much) to + much) v = mo v + (if v = to then much else 0) - (if v = from_ then much else 0) := by
    intro v
    simp only [upf, hne, if_false]
    by_cases c1 : v = to
    · subst c1; simp [hne]
    · by_cases c2 : v = from_
      · subst c2; simp [c1]
      · simp [c1, c2]
  have hN := hV.max
  have hk0 := hn.nonneg to hto
  obtain ⟨D, hD1, hD2⟩ := h.pd
  have hDto := hD2 to hto htd
  have hway := way_bd h hV hw hn (rk to) to (Nat.le_refl _) hto htf
  have hrk := hn.rkl to hto htf
  have hnp : ∀ v, nextp N.toNat cost (nth cost to) p v ≤ D + nth cost to ∧ 0 ≤ nextp N.toNat cost (nth cost to) p v := by
    intro v
    have h1 := hD1 v
    have h2 := h.pb v
    simp only [nextp]
    split
    · rename_i hv
      have := hn.nonneg v hv
      omega
    · omega
  refine ⟨⟨hA.bds, ?_, hA.red, fun v => ?_, fun v hv hp => ?_, ⟨D + nth cost to, fun v => (hnp v).1, fun v hv hp => ?_⟩⟩, ?_⟩
  · funext v
    rw [hmo, hA.exq v, h.meq]
  · have := hnp v; omega
  · rw [hmo] at hp
    have hmv : 0 < mo v := by
      by_cases c : v = to
      · subst c; simp [hne] at hp; omega
      · simp only [c, if_false] at hp
        split at hp <;> omega
    have h1 := h.pz v hv hmv
    have h2 := hn.src v hv hmv
    simp only [nextp, hv, if_true, h1, h2]
    omega
  · rw [hmo] at hp
    have hmv : mo v < 0 := by
      by_cases c : v = from_
      · subst c
        have : ¬ v = to := fun e => hne e.symm
        simp only [this, if_false, if_true] at hp; omega
      · simp only [c, if_false] at hp
        split at hp <;> omega
    have h1 := hD2 v hv hmv
    have h2 := hmin v hv hmv
    simp only [nextp, hv, if_true, h1]
    omega
  · refine sum_lt (u := from_) (fun v => ?_) (List.mem_range.2 (by omega)) ?_
    · rw [hmo]
      by_cases c1 : v = to
      · subst c1; simp [hne]; omega
      · simp only [c1, if_false]
        split <;> omega
    · rw [hmo]
      have : ¬ from_ = to := fun e => hne e.symm
      simp only [this, if_false, if_true]
      omega
end

theorem much_step {arcs : List Arc} {x : List Int} {last : List Stp} {to at_ : Nat} {much m' : Int} {s : Stp} (h : ∀ v t, Trail last to v → last[v]? = some t → Trail last at_ v ∨ (0 ≤ t.arc ∧ ResOk arcs x much t))
    (hs : last[at_]? = some s) (ha : 0 ≤ s.arc) (hres : ResOk arcs x m' s) (hle : m' ≤ much) : ∀ v t, Trail last to v → last[v]? = some t → Trail last s.src.toNat v ∨ (0 ≤ t.arc ∧ ResOk arcs x m' t) := by
  intro v t hv ht
  rcases h v t hv ht with h1 | ⟨h1, h2⟩
  · rcases h1.split hs with rfl | h1
    · rw [hs] at ht; cases ht; exact .inr ⟨ha, hres⟩
    · exact .inl h1
  · exact .inr ⟨h1, h2.le hle⟩

theorem ex_bd_all {N : Int} {arcs : List Arc} {x : List Int} (hV : Valid N arcs) (hx : Amts arcs x) (v : Nat) : -4000000000 ≤ ex arcs x v ∧ ex arcs x v ≤ 4000000000 := by
  have h := ex_bd_take hV hx arcs.length v
  rw [List.take_length, List.take_of_length_le (by rw [hx.len]; exact Nat.le_refl _)] at h
  exact h

/-! ### the start -/

/-- The amounts at first: each is the better end of its arc. -/
def x0 : List Arc → List Int → List Int
  | a :: as, q :: qs => (if 0 < q then a.hi else a.lo) :: x0 as qs
  | _, _ => []
theorem x0_length : ∀ (as : List Arc) (qs : List Int), as.length = qs.length → (x0 as qs).length = as.length := by
  intro as
  induction as with
  | nil => intro qs _; simp [x0]
  | cons a as ih =>
    intro qs h
    cases qs with
    | nil => simp at h
    | cons q qs => simp [x0, ih qs (by simpa using h)]
theorem x0_get : ∀ (as : List Arc) (qs : List Int) (i : Nat) (a : Arc) (q : Int), as[i]? = some a → qs[i]? = some q → (x0 as qs)[i]? = some (if 0 < q then a.hi else a.lo) := by
  intro as
  induction as with
  | nil => intro qs i a q h; simp at h
  | cons b as ih =>
    intro qs i a q h1 h2
    cases qs with
    | nil => simp at h2
    | cons r qs =>
      cases i with
      | zero => simp at h1 h2; subst h1; subst h2; rfl
      | succ i => simpa [x0] using ih qs i a q (by simpa using h1) (by simpa using h2)

/-- The start is a state without steps of cost below 0, if no arc's bounds cross. -/
theorem Cn.start {N : Int} {arcs : List Arc} {wl : List Int} (hw : Wts arcs wl) (hle : ∀ a, a ∈ arcs → a.lo ≤ a.hi) : Cn N arcs wl (x0 arcs wl) (ex arcs (x0 arcs wl)) fun _ => 0 := by
  have hl := x0_length arcs wl hw.len.symm
  refine ⟨⟨hl, fun i a y ha hy => ?_⟩, rfl, fun s hs => ?_, fun v => by omega, fun v _ _ => rfl, ⟨0, fun v => Int.le_refl _, fun v _ _ => rfl⟩⟩
  · obtain ⟨q, hq⟩ : ∃ q, wl[i]? = some q := ⟨_, List.getElem?_eq_getElem (by rw [hw.len]; exact (List.getElem?_eq_some_iff.1 ha).1)⟩
    rw [x0_get arcs wl i a q ha hq] at hy
    have hy' : y = if 0 < q then a.hi else a.lo := (Option.some.inj hy).symm
    have := hle a (List.mem_of_getElem? ha)
    subst hy'
    split <;> omega
  · obtain ⟨i, a, y, q, ha, hy, hq, hs1⟩ := mem_stps hs
    rw [x0_get arcs wl i a q ha hq] at hy
    have hy' : y = if 0 < q then a.hi else a.lo := (Option.some.inj hy).symm
    subst hy'
    rcases mem_stp1.1 hs1 with ⟨h1, rfl⟩ | ⟨h1, rfl⟩
    · simp only [fwd, cst]; split at h1 <;> omega
    · simp only [bwd, cst]; split at h1 <;> omega

theorem splice_car {N : Int} {va vx vw u1 u2 : Value} {m p : Nat → Int} : splice (carC N va vx vw m p) 0 [.int .i64 5, u1] = carC 5 u1 vx vw m p ∧ splice (carC N va vx vw m p) 2 [u2] = carC N va u2 vw m p := ⟨rfl, rfl⟩

theorem x0_amts {N : Int} {arcs : List Arc} {wl : List Int} (hV : Valid N arcs) (hw : Wts arcs wl) : Amts arcs (x0 arcs wl) := by
  have hl := x0_length arcs wl hw.len.symm
  refine ⟨hl, fun y hy => ?_⟩
  obtain ⟨i, hi, rfl⟩ := List.mem_iff_getElem.1 hy
  obtain ⟨a, ha⟩ : ∃ a, arcs[i]? = some a := ⟨_, List.getElem?_eq_getElem (by omega)⟩
  obtain ⟨q, hq⟩ : ∃ q, wl[i]? = some q := ⟨_, List.getElem?_eq_getElem (by rw [hw.len]; omega)⟩
  have h1 := x0_get arcs wl i a q ha hq
  rw [List.getElem?_eq_getElem hi] at h1
  have h2 := hV.at ha
  rw [Option.some.inj h1]
  split <;> omega

/-- A sum over the first n nodes. -/
def sm (f : Nat → Int) : Nat → Int
  | 0 => 0
  | n + 1 => sm f n + f n
theorem sm_add (f g : Nat → Int) (n : Nat) : sm (fun v => f v + g v) n = sm f n + sm g n := by
  induction n with
  | zero => rfl
  | succ n ih => simp only [sm, ih]; omega
theorem sm_sub (f g : Nat → Int) (n : Nat) : sm (fun v => f v - g v) n = sm f n - sm g n := by
  induction n with
  | zero => rfl
  | succ n ih => simp only [sm, ih]; omega
theorem sm_congr {f g : Nat → Int} {n : Nat} (h : ∀ v, v < n → f v = g v) : sm f n = sm g n := by
  induction n with
  | zero => rfl
  | succ n ih => simp only [sm, ih fun v hv => h v (by omega), h n (by omega)]
theorem sm_zero (n : Nat) : sm (fun _ => 0) n = 0 := by
  induction n with
  | zero => rfl
  | succ n ih => simp [sm, ih]
theorem sm_one (d y : Int) (P : Nat → Bool) (n : Nat) : sm (fun v => if P v = true then (if d = (v : Int) then y else 0) else 0) n = if 0 ≤ d ∧ d < n ∧ P d.toNat = true then y else 0 := by
  induction n with
  | zero => simp only [sm]; rw [if_neg (by omega)]
  | succ n ih =>
    simp only [sm, ih]
    by_cases e : d = (n : Int)
    · have e1 : d.toNat = n := by omega
      have h1 : ¬ (0 ≤ d ∧ d < n ∧ P d.toNat = true) := by omega
      rw [if_neg h1]
      by_cases hp : P n = true
      · have h2 : 0 ≤ d ∧ d < (n + 1 : Nat) ∧ P d.toNat = true := ⟨by omega, by omega, by rw [e1]; exact hp⟩
        rw [if_pos h2, if_pos hp, if_pos e]; omega
      · have h2 : ¬ (0 ≤ d ∧ d < (n + 1 : Nat) ∧ P d.toNat = true) := fun h => hp (by rw [← e1]; exact h.2.2)
        rw [if_neg h2, if_neg hp]; omega
    · have h0 : (if P n = true then (if d = (n : Int) then y else 0) else 0) = 0 := by rw [if_neg e]; split <;> rfl
      rw [h0, Int.add_zero]
      by_cases h1 : 0 ≤ d ∧ d < n ∧ P d.toNat = true
      · rw [if_pos h1, if_pos ⟨h1.1, by omega, h1.2.2⟩]
      · rw [if_neg h1, if_neg fun h => h1 ⟨h.1, by omega, h.2.2⟩]
theorem sm_pos {f : Nat → Int} {n u : Nat} (h : ∀ v, v < n → 0 ≤ f v) (hu : u < n) (hf : 0 < f u) : 0 < sm f n := by
  have hnn : ∀ m, m ≤ n → 0 ≤ sm f m := by
    intro m
    induction m with
    | zero => intro _; exact Int.le_refl _
    | succ m ih => intro hm; have := ih (by omega); have := h m (by omega); simp only [sm]; omega
  induction n with
  | zero => omega
  | succ n ih =>
    simp only [sm]
    have h1 := hnn n (by omega)
    have h2 := h n (by omega)
    rcases Nat.lt_or_ge u n with hu' | hu'
    · have := ih (fun v hv => h v (by omega)) hu' (fun m hm => hnn m (by omega)); omega
    · have : u = n := by omega
      subst this; omega

/-- What nodes have too much, together: by what goes over the cut. -/
def flux (P : Nat → Bool) : List Arc → List Int → Int
  | a :: as, y :: ys => (if P a.dst.toNat = true then y else 0) - (if P a.src.toNat = true then y else 0) + flux P as ys
  | _, _ => 0
theorem sm_ex {N : Int} (P : Nat → Bool) : ∀ (as : List Arc) (ys : List Int), (∀ a ∈ as, okArc N a = true) → sm (fun v => if P v = true then ex as ys v else 0) N.toNat = flux P as ys := by
  intro as
  induction as with
  | nil =>
    intro ys _
    simp only [ex, flux]
    rw [sm_congr (g := fun _ => 0) (fun v _ => by split <;> rfl), sm_zero]
  | cons a as ih =>
    intro ys h
    cases ys with
    | nil =>
      simp only [ex, flux]
      rw [sm_congr (g := fun _ => 0) (fun v _ => by split <;> rfl), sm_zero]
    | cons y ys =>
      have hok := okArc_iff.1 (h a (List.mem_cons_self ..))
      have h1 := ih ys fun b hb => h b (List.mem_cons_of_mem _ hb)
      have h2 := sm_one a.dst y P N.toNat
      have h3 := sm_one a.src y P N.toNat
      have e2 : (if 0 ≤ a.dst ∧ a.dst < N.toNat ∧ P a.dst.toNat = true then y else 0) = if P a.dst.toNat = true then y else 0 := by
        by_cases c : P a.dst.toNat = true
        · rw [if_pos c, if_pos ⟨by omega, by omega, c⟩]
        · rw [if_neg c, if_neg fun h => c h.2.2]
      have e3 : (if 0 ≤ a.src ∧ a.src < N.toNat ∧ P a.src.toNat = true then y else 0) = if P a.src.toNat = true then y else 0 := by
        by_cases c : P a.src.toNat = true
        · rw [if_pos c, if_pos ⟨by omega, by omega, c⟩]
        · rw [if_neg c, if_neg fun h => c h.2.2]
      rw [e2] at h2
      rw [e3] at h3
      simp only [flux, ← h1, ← h2, ← h3]
      rw [← sm_sub, ← sm_add]
      apply sm_congr
      intro v _
      simp only [ex]
      split <;> omega

/-- The nodes below i that no way leads to. -/
def und (cost : List Int) (i : Nat) : List Int := ((List.range i).filter fun v => decide (¬ nth cost v < far)).map fun (v : Nat) => (v : Int)
theorem mem_und {cost : List Int} {i : Nat} {x : Int} : x ∈ und cost i ↔ ∃ v : Nat, v < i ∧ ¬ nth cost v < far ∧ x = (v : Int) := by
  simp only [und, List.mem_map, List.mem_filter, List.mem_range, decide_eq_true_eq]
  constructor
  · rintro ⟨v, ⟨h1, h2⟩, rfl⟩; exact ⟨v, h1, h2, rfl⟩
  · rintro ⟨v, h1, h2, rfl⟩; exact ⟨v, ⟨h1, h2⟩, rfl⟩
theorem und_zero {cost : List Int} : und cost 0 = [] := rfl
theorem und_in {cost : List Int} {i : Nat} (h : ¬ nth cost i < far) : und cost (i + 1) = und cost i ++ [(i : Int)] := by
  have h1 : [i].filter (fun v => decide (¬ nth cost v < far)) = [i] := List.filter_cons_of_pos (decide_eq_true h)
  rw [und, List.range_succ, List.filter_append, h1, List.map_append]
  rfl
theorem und_out {cost : List Int} {i : Nat} (h : nth cost i < far) : und cost (i + 1) = und cost i := by
  have h1 : [i].filter (fun v => decide (¬ nth cost v < far)) = [] := List.filter_cons_of_neg (by rw [decide_eq_true_eq]; exact fun q => q h)
  rw [und, List.range_succ, List.filter_append, h1, List.append_nil]
  rfl
theorem und_len (cost : List Int) (i : Nat) : (und cost i).length ≤ i := by
  have := List.length_filter_le (fun v => decide (¬ nth cost v < far)) (List.range i)
  simp only [und, List.length_map]
  rw [List.length_range] at this
  exact this
theorem asc_of {N : Int} : ∀ (l : List Int) (last : Int), l.Pairwise (· < ·) → (∀ v ∈ l, last + 1 ≤ v ∧ v ≤ N - 1) → asc N last l = true := by
  intro l
  induction l with
  | nil => intro _ _ _; rfl
  | cons a l ih =>
    intro last hp hb
    rw [List.pairwise_cons] at hp
    simp only [asc, Bool.and_eq_true, decide_eq_true_eq]
    refine ⟨hb a (List.mem_cons_self ..), ih a hp.2 fun v hv => ?_⟩
    have := hp.1 v hv
    have := hb v (List.mem_cons_of_mem _ hv)
    omega
theorem und_asc {cost : List Int} {N : Int} : asc N (-1) (und cost N.toNat) = true := by
  refine asc_of _ _ ?_ fun v hv => ?_
  · unfold und
    rw [List.pairwise_map]
    exact (List.pairwise_lt_range.filter _).imp fun h => by omega
  · obtain ⟨u, hu, _, rfl⟩ := mem_und.1 hv
    omega

theorem foldl_add (l : List Int) : ∀ a, l.foldl (· + ·) a = a + l.foldl (· + ·) 0 := by
  induction l with
  | nil => intro a; simp
  | cons b l ih => intro a; rw [List.foldl_cons, List.foldl_cons, ih, ih (0 + b)]; omega
theorem csum_append (s t : List (Arc × Bool)) : csum (s ++ t) = csum s + csum t := by
  simp only [csum, List.map_append, List.foldl_append]
  rw [foldl_add]

/-- What goes over a cut that no step crosses. -/
theorem flux_cut (U : List Int) (P : Nat → Bool) : ∀ (as : List Arc) (ys : List Int), as.length = ys.length → (∀ a ∈ as, (a.src ∈ U ↔ P a.src.toNat = true) ∧ (a.dst ∈ U ↔ P a.dst.toNat = true)) →
    (∀ (i : Nat) (a : Arc) (y : Int), as[i]? = some a → ys[i]? = some y → (P a.src.toNat = true → ¬ P a.dst.toNat = true → y = a.lo) ∧ (P a.dst.toNat = true → ¬ P a.src.toNat = true → y = a.hi)) →
    csum (cutl U as) = - flux P as ys := by
  intro as
  induction as with
  | nil => intro ys _ _ _; simp [cutl, csum, flux]
  | cons a as ih =>
    intro ys hl hU h
    cases ys with
    | nil => simp at hl
    | cons y ys =>
      have h1 := ih ys (by simpa using hl) (fun b hb => hU b (List.mem_cons_of_mem _ hb)) fun i b z hb hz => h (i + 1) b z (by simpa using hb) (by simpa using hz)
      have h2 := h 0 a y rfl rfl
      obtain ⟨u1, u2⟩ := hU a (List.mem_cons_self ..)
      have hc : cutl U (a :: as) = cut1 U a ++ cutl U as := by simp [cutl]
      rw [hc, csum_append, h1]
      simp only [flux]
      unfold cut1
      by_cases c1 : P a.src.toNat = true <;> by_cases c2 : P a.dst.toNat = true
      · have e1 := u1.2 c1; have e2 := u2.2 c2
        simp [e1, e2, c1, c2, csum]
      · have e1 := u1.2 c1; have e2 : ¬ a.dst ∈ U := fun q => c2 (u2.1 q)
        have := h2.1 c1 c2
        simp [e1, e2, c1, c2, csum, csum1]; omega
      · have e1 : ¬ a.src ∈ U := fun q => c1 (u1.1 q); have e2 := u2.2 c2
        have := h2.2 c2 c1
        simp [e1, e2, c1, c2, csum, csum1]; omega
      · have e1 : ¬ a.src ∈ U := fun q => c1 (u1.1 q); have e2 : ¬ a.dst ∈ U := fun q => c2 (u2.1 q)
        simp [e1, e2, c1, c2, csum]

theorem flux_compl {P Q : Nat → Bool} (h : ∀ v, P v = !Q v) : ∀ (as : List Arc) (ys : List Int), flux P as ys + flux Q as ys = 0 := by
  intro as
  induction as with
  | nil => intro ys; simp [flux]
  | cons a as ih =>
    intro ys
    cases ys with
    | nil => simp [flux]
    | cons y ys =>
      have := ih ys
      simp only [flux, h]
      cases Q a.src.toNat <;> cases Q a.dst.toNat <;> simp <;> omega

/-- The nodes that no way leads to are an obstacle. -/
theorem obst {N : Int} {arcs : List Arc} {wl x : List Int} {mo p : Nat → Int} {cost : List Int} {last : List Stp} {rk : Nat → Nat} (h : Cn N arcs wl x mo p) (hV : Valid N arcs) (hw : Wts arcs wl)
    (hn : Nearest N.toNat (stps p 0 arcs x wl) mo cost last rk) (hno : ∀ v, v < N.toNat → mo v < 0 → ¬ nth cost v < far) (hex : ∃ u : Nat, u < 1000 ∧ 0 < mo u) : hind N arcs (-1) (und cost N.toNat) = true := by
  rw [hind, if_neg (by omega), und_asc, Bool.true_and, decide_eq_true_eq]
  have hfar : far = 1152921504606846976 := rfl
  have hcost := h.cost hw
  have hmem : ∀ d : Int, 0 ≤ d → d < N → (d ∈ und cost N.toNat ↔ decide (¬ nth cost d.toNat < far) = true) := by
    intro d h1 h2
    rw [mem_und, decide_eq_true_eq]
    constructor
    · rintro ⟨v, _, h3, rfl⟩; simpa using h3
    · intro h3; exact ⟨d.toNat, by omega, h3, by omega⟩
  have key := flux_cut (und cost N.toNat) (fun v => decide (¬ nth cost v < far)) arcs x (by rw [h.bds.1]) (fun a ha => by
    have hok := okArc_iff.1 (hV.ok a ha)
    exact ⟨hmem _ (by omega) (by omega), hmem _ (by omega) (by omega)⟩) (fun i a y ha hy => by
    have hok := hV.at ha
    have hb := h.bds.2 i a y ha hy
    obtain ⟨q, hq⟩ : ∃ q, wl[i]? = some q := ⟨_, List.getElem?_eq_getElem (by rw [hw.len]; exact (List.getElem?_eq_some_iff.1 ha).1)⟩
    simp only [decide_eq_true_eq]
    refine ⟨fun c1 c2 => ?_, fun c1 c2 => ?_⟩
    · apply Classical.byContradiction
      intro hne
      have hs : bwd p i a q ∈ stps p 0 arcs x wl := mem_stps_of ha hy hq (mem_stp1.2 (.inr ⟨by omega, rfl⟩))
      have h1 := hn.relaxed _ hs
      have h2 := hcost _ hs
      simp only [bwd] at h1 h2
      have c2' : nth cost a.dst.toNat < far := Classical.byContradiction c2
      have h3 := h1 c2'
      have h4 := hn.bd _ (by omega) c2'
      omega
    · apply Classical.byContradiction
      intro hne
      have hs : fwd p i a q ∈ stps p 0 arcs x wl := mem_stps_of ha hy hq (mem_stp1.2 (.inl ⟨by omega, rfl⟩))
      have h1 := hn.relaxed _ hs
      have h2 := hcost _ hs
      simp only [fwd] at h1 h2
      have c2' : nth cost a.src.toNat < far := Classical.byContradiction c2
      have h3 := h1 c2'
      have h4 := hn.bd _ (by omega) c2'
      omega)
  rw [key]
  have e1 := sm_ex (N := N) (fun v => decide (¬ nth cost v < far)) arcs x hV.ok
  have e2 := sm_ex (N := N) (fun v => decide (nth cost v < far)) arcs x hV.ok
  have e3 := flux_compl (P := fun v => decide (¬ nth cost v < far)) (Q := fun v => decide (nth cost v < far)) (fun v => by rw [decide_not]) arcs x
  obtain ⟨u, hu, hup⟩ := hex
  have huN : u < N.toNat := by
    rcases Nat.lt_or_ge u N.toNat with h1 | h1
    · exact h1
    · rw [h.meq, ex_out arcs x u hV.ok (by omega)] at hup
      omega
  have hpos : 0 < sm (fun v => if decide (nth cost v < far) = true then ex arcs x v else 0) N.toNat := by
    refine sm_pos (u := u) (fun v hv => ?_) huN ?_
    · have h1 := hno v hv
      rw [h.meq] at h1
      by_cases c : nth cost v < far
      · simp only [c, decide_true, if_true]
        rcases Int.lt_or_le (ex arcs x v) 0 with h2 | h2
        · exact absurd c (h1 h2)
        · exact h2
      · simp [c]
    · have h1 := hn.src u huN hup
      have h2 : nth cost u < far := by omega
      rw [h.meq] at hup
      simp only [h2, decide_true, if_true]; exact hup
  omega

theorem le_step {arcs : List Arc} {i : Nat} {a : Arc} (h : ∀ (j : Nat) (a : Arc), j < i → arcs[j]? = some a → a.lo ≤ a.hi) (ha : arcs[i]? = some a) (hl : a.lo ≤ a.hi) :
    ∀ (j : Nat) (b : Arc), j < i + 1 → arcs[j]? = some b → b.lo ≤ b.hi := by
  intro j b hj hb
  rcases Nat.lt_or_ge j i with h1 | h1
  · exact h j b h1 hb
  · have e : j = i := by omega
    subst e
    rw [ha] at hb
    cases hb
    exact hl
end Go.Vk.Flow
