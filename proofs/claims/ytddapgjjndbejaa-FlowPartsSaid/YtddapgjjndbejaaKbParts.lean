/- Texts joined for a claim: VkFlowLead, VkFlowShow, VkMarks, VkDraw2, VkCopy, VkFlowRel, VkYoung, VkFlowEdit, VkFlowNet, VkForget, VkFlowLaws, VkFlowLaws2, VkFlowRef, VkFlowLaws3, VkFlowLaws4, VkFlowLaws5, VkFlowTurn, VkFlowReach, VkFlowFix, VkFlowCirc, VkLate, VkLate2, VkLate3. -/
import Derived.Test.YtddapgjjndbejaaKaParts
import Derived.Lib.Slices
/- Nets, as plain mathematics, part 3: what is led along a cheapest way. No program in sight. -/
namespace Go.Vk.Flow
open Go

/-- Amounts between the bounds of their arcs. -/
def Bds (arcs : List Arc) (x : List Int) : Prop := x.length = arcs.length ∧ ∀ (i : Nat) (a : Arc) (y : Int), arcs[i]? = some a → x[i]? = some y → a.lo ≤ y ∧ y ≤ a.hi

/-- The state of a net with amounts: no step has a cost below 0. -/
structure Cn (N : Int) (arcs : List Arc) (wl : List Int) (x : List Int) (mo p : Nat → Int) : Prop where
  bds : Bds arcs x
  meq : mo = ex arcs x
  red : ∀ s, s ∈ stps p 0 arcs x wl → 0 ≤ s.cost
  pb : ∀ v, 0 ≤ p v ∧ p v ≤ 1000000
  pz : ∀ v, v < N.toNat → 0 < mo v → p v = 0
  pd : ∃ D, (∀ v, p v ≤ D) ∧ ∀ v, v < N.toNat → mo v < 0 → p v = D

section
variable {N : Int} {arcs : List Arc} {wl x : List Int} {mo p : Nat → Int}

theorem Cn.amts (h : Cn N arcs wl x mo p) (hV : Valid N arcs) : Amts arcs x := by
  refine ⟨h.bds.1, fun y hy => ?_⟩
  obtain ⟨i, hi, rfl⟩ := List.mem_iff_getElem.1 hy
  obtain ⟨a, ha⟩ : ∃ a, arcs[i]? = some a := ⟨_, List.getElem?_eq_getElem (by rw [← h.bds.1]; exact hi)⟩
  have h1 := h.bds.2 i a _ ha (List.getElem?_eq_getElem hi)
  have h2 := hV.at ha
  omega

theorem Cn.cost (h : Cn N arcs wl x mo p) (hw : Wts arcs wl) : ∀ s, s ∈ stps p 0 arcs x wl → 0 ≤ s.cost ∧ s.cost ≤ 2000000 := by
  intro s hs
  refine ⟨h.red s hs, ?_⟩
  obtain ⟨i, a, y, q, _, _, hq, hs1⟩ := mem_stps hs
  have hqb := hw.at hq
  have h1 := h.pb a.src.toNat
  have h2 := h.pb a.dst.toNat
  rcases mem_stp1.1 hs1 with ⟨_, rfl⟩ | ⟨_, rfl⟩ <;> simp only [fwd, bwd, cst] <;> omega

/-- A step's ends, and its cost, by the costs of its nodes. -/
theorem step_cost (hw : Wts arcs wl) {s : Stp} (hs : s ∈ stps p 0 arcs x wl) : ∃ d : Int, -1000 ≤ d ∧ d ≤ 1000 ∧ ∀ p' : Nat → Int, ∃ c', (⟨s.arc, s.back, s.src, s.dst, c'⟩ : Stp) ∈ stps p' 0 arcs x wl ∧ c' = p' s.src.toNat - p' s.dst.toNat + d ∧ (p' = p → c' = s.cost) := by
  obtain ⟨i, a, y, q, ha, hy, hq, hs1⟩ := mem_stps hs
  have hqb := hw.at hq
  rw [Nat.zero_add] at hs1
  rcases mem_stp1.1 hs1 with ⟨h1, rfl⟩ | ⟨h1, rfl⟩
  · exact ⟨-q, by omega, by omega, fun p' => ⟨cst p' a q, mem_stps_of ha hy hq (mem_stp1.2 (.inl ⟨h1, rfl⟩)), by simp only [cst, fwd]; omega, fun e => by subst e; rfl⟩⟩
  · exact ⟨q, by omega, by omega, fun p' => ⟨-cst p' a q, mem_stps_of ha hy hq (mem_stp1.2 (.inr ⟨h1, rfl⟩)), by simp only [cst, bwd]; omega, fun e => by subst e; rfl⟩⟩

variable {cost : List Int} {last : List Stp} {rk : Nat → Nat}

/-- A node's cost is bounded by the length of the way to it. -/
theorem way_bd (h : Cn N arcs wl x mo p) (hV : Valid N arcs) (hw : Wts arcs wl) (hn : Nearest N.toNat (stps p 0 arcs x wl) mo cost last rk) :
    ∀ (r v : Nat), rk v ≤ r → v < N.toNat → nth cost v < far → p v + nth cost v ≤ 1000 * rk v := by
  intro r
  induction r with
  | zero =>
    intro v hr hv hf
    obtain ⟨s, hs⟩ : ∃ s, last[v]? = some s := ⟨_, List.getElem?_eq_getElem (by rw [hn.ll]; exact hv)⟩
    rcases hn.fin v hv hf s hs with ⟨_, h2, h3⟩ | ⟨_, _, _, _, _, h6⟩
    · have := h.pz v hv h3; omega
    · omega
  | succ r ih =>
    intro v hr hv hf
    obtain ⟨s, hs⟩ : ∃ s, last[v]? = some s := ⟨_, List.getElem?_eq_getElem (by rw [hn.ll]; exact hv)⟩
    rcases hn.fin v hv hf s hs with ⟨_, h2, h3⟩ | ⟨_, h2, h3, h4, h5, h6⟩
    · have := h.pz v hv h3; omega
    · have hok := stps_ok hV h2
      have h7 := ih s.src.toNat (by omega) (by omega) h4
      obtain ⟨d, d1, d2, hd⟩ := step_cost hw h2
      obtain ⟨c', _, hc, he⟩ := hd p
      have := he rfl
      have hv' : s.dst.toNat = v := by omega
      rw [hv'] at hc
      omega

/-- The costs of nodes behind a search. -/
def nextp (n : Nat) (cost : List Int) (K : Int) (p : Nat → Int) : Nat → Int := fun v => if v < n then p v + min (nth cost v) K else p v

theorem nextp_red (h : Cn N arcs wl x mo p) (hV : Valid N arcs) (hw : Wts arcs wl) (hn : Nearest N.toNat (stps p 0 arcs x wl) mo cost last rk) {K : Int} (hK : K < far) :
    ∀ s, s ∈ stps (nextp N.toNat cost K p) 0 arcs x wl → 0 ≤ s.cost := by
  intro s hs
  have hok := stps_ok hV hs
  obtain ⟨d, _, _, hd⟩ := step_cost hw hs
  obtain ⟨c, hc1, hc2, _⟩ := hd p
  obtain ⟨c', _, hc4, hc5⟩ := hd (nextp N.toNat cost K p)
  have hc6 := hc5 rfl
  have hcost := h.red _ hc1
  have h1 : s.src.toNat < N.toNat := by omega
  have h2 : s.dst.toNat < N.toNat := by omega
  simp only [nextp, h1, h2, if_true] at hc4
  simp only at hcost
  by_cases hf : nth cost s.src.toNat < far
  · have := hn.relaxed _ hc1 hf
    simp only at this
    omega
  · have h3 := hn.big _ h1
    omega

/-- The steps of the way are tight behind the search. -/
theorem nextp_tight (h : Cn N arcs wl x mo p) (hV : Valid N arcs) (hw : Wts arcs wl) (hn : Nearest N.toNat (stps p 0 arcs x wl) mo cost last rk) {K : Int} {v : Nat} {s : Stp} (hv : v < N.toNat) (hf : nth cost v < far) (hvK : nth cost v ≤ K)
    (hs : last[v]? = some s) (ha : 0 ≤ s.arc) : nth cost s.src.toNat ≤ K ∧ (⟨s.arc, s.back, s.src, s.dst, 0⟩ : Stp) ∈ stps (nextp N.toNat cost K p) 0 arcs x wl := by
  rcases hn.fin v hv hf s hs with ⟨h1, _⟩ | ⟨_, h2, h3, h4, h5, h6⟩
  · omega
  · have hok := stps_ok hV h2
    have hc0 := h.red s h2
    refine ⟨by omega, ?_⟩
    obtain ⟨d, _, _, hd⟩ := step_cost hw h2
    obtain ⟨c, _, hc2, hc3⟩ := hd p
    obtain ⟨c', hc4, hc5, _⟩ := hd (nextp N.toNat cost K p)
    have hc6 := hc3 rfl
    have h1 : s.src.toNat < N.toNat := by omega
    have h2' : s.dst.toNat < N.toNat := by omega
    have hv' : s.dst.toNat = v := by omega
    simp only [nextp, h1, h2', if_true] at hc5
    rw [hv'] at hc5 hc2
    have : c' = 0 := by omega
    subst this
    exact hc4
end

/-- The cheapest of the nodes below i of which P holds (-1: none). -/
def Mp (cost : List Int) (Q : Nat → Prop) (i : Nat) (v : Int) : Prop :=
  (v = -1 ∧ ∀ u, u < i → Q u → ¬ nth cost u < far) ∨ ∃ v0 : Nat, v = (v0 : Int) ∧ v0 < i ∧ Q v0 ∧ nth cost v0 < far ∧ ∀ u, u < i → Q u → nth cost v0 ≤ nth cost u
section
variable {cost : List Int} {Q : Nat → Prop} {i : Nat} {v : Int}
theorem Mp.zero : Mp cost Q 0 (-1) := .inl ⟨rfl, fun u h => absurd h (Nat.not_lt_zero u)⟩
theorem Mp.lt (h : Mp cost Q i v) : -1 ≤ v ∧ v < i := by
  rcases h with ⟨rfl, _⟩ | ⟨v0, rfl, h1, _⟩ <;> omega
theorem Mp.skip (h : Mp cost Q i v) (hq : ¬ Q i) : Mp cost Q (i + 1) v := by
  have key : ∀ u, u < i + 1 → Q u → u < i := fun u hu hqu => by
    have : u ≠ i := fun e => hq (e ▸ hqu)
    omega
  rcases h with ⟨h1, h2⟩ | ⟨v0, h1, h2, h3, h4, h5⟩
  · exact .inl ⟨h1, fun u hu hqu => h2 u (key u hu hqu) hqu⟩
  · exact .inr ⟨v0, h1, by omega, h3, h4, fun u hu hqu => h5 u (key u hu hqu) hqu⟩
theorem Mp.skipF (h : Mp cost Q i v) (hf : ¬ nth cost i < far) : Mp cost Q (i + 1) v := by
  rcases h with ⟨h1, h2⟩ | ⟨v0, h1, h2, h3, h4, h5⟩
  · refine .inl ⟨h1, fun u hu hqu => ?_⟩
    rcases Nat.lt_or_ge u i with hu' | hu'
    · exact h2 u hu' hqu
    · have : u = i := by omega
      subst this; exact hf
  · refine .inr ⟨v0, h1, by omega, h3, h4, fun u hu hqu => ?_⟩
    rcases Nat.lt_or_ge u i with hu' | hu'
    · exact h5 u hu' hqu
    · have : u = i := by omega
      subst this; omega
theorem Mp.keep (h : Mp cost Q i v) (hv : ¬ v < 0) (hc : ¬ nth cost i < nth cost v.toNat) : Mp cost Q (i + 1) v := by
  rcases h with ⟨h1, h2⟩ | ⟨v0, h1, h2, h3, h4, h5⟩
  · omega
  · subst h1
    refine .inr ⟨v0, rfl, by omega, h3, h4, fun u hu hqu => ?_⟩
    rcases Nat.lt_or_ge u i with hu' | hu'
    · exact h5 u hu' hqu
    · have : u = i := by omega
      subst this
      rw [Int.toNat_natCast] at hc; omega
theorem Mp.take1 (h : Mp cost Q i v) (hv : v < 0) (hq : Q i) (hf : nth cost i < far) : Mp cost Q (i + 1) (i : Int) := by
  rcases h with ⟨h1, h2⟩ | ⟨v0, h1, _⟩
  · refine .inr ⟨i, rfl, by omega, hq, hf, fun u hu hqu => ?_⟩
    rcases Nat.lt_or_ge u i with hu' | hu'
    · have := h2 u hu' hqu; omega
    · have : u = i := by omega
      subst this; exact Int.le_refl _
  · omega
theorem Mp.take2 (h : Mp cost Q i v) (hv : ¬ v < 0) (hq : Q i) (hf : nth cost i < far) (hc : nth cost i < nth cost v.toNat) : Mp cost Q (i + 1) (i : Int) := by
  rcases h with ⟨h1, h2⟩ | ⟨v0, h1, h2, h3, h4, h5⟩
  · omega
  · subst h1
    rw [Int.toNat_natCast] at hc
    refine .inr ⟨i, rfl, by omega, hq, hf, fun u hu hqu => ?_⟩
    rcases Nat.lt_or_ge u i with hu' | hu'
    · have := h5 u hu' hqu; omega
    · have : u = i := by omega
      subst this; exact Int.le_refl _
end

theorem nextp_zero {cost : List Int} {K : Int} {p : Nat → Int} : nextp 0 cost K p = p := by funext v; simp [nextp]
theorem nextp_step {cost : List Int} {K : Int} {p : Nat → Int} {i : Nat} : upf (nextp i cost K p) i (nextp i cost K p i + min (nth cost i) K) = nextp (i + 1) cost K p := by
  funext v
  simp only [upf, nextp]
  by_cases e : v = i
  · subst e; simp
  · by_cases c : v < i
    · have : v < i + 1 := by omega
      simp [e, c, this]
    · have : ¬ v < i + 1 := by omega
      simp [e, c, this]

/-- Back along the way. -/
inductive Trail (last : List Stp) : Nat → Nat → Prop
  | refl (v : Nat) : Trail last v v
  | step {v u : Nat} {s : Stp} : last[v]? = some s → 0 ≤ s.arc → Trail last s.src.toNat u → Trail last v u

theorem Trail.snoc {last : List Stp} {v u : Nat} (h : Trail last v u) {s : Stp} (hs : last[u]? = some s) (ha : 0 ≤ s.arc) : Trail last v s.src.toNat := by
  induction h with
  | refl v => exact .step hs ha (.refl _)
  | step h1 h2 _ ih => exact .step h1 h2 (ih hs)
theorem Trail.stop {last : List Stp} {v u : Nat} (h : Trail last v u) {s : Stp} (hs : last[v]? = some s) (ha : s.arc < 0) : u = v := by
  cases h with
  | refl => rfl
  | step h1 h2 _ => rw [hs] at h1; cases h1; omega
theorem Trail.split {last : List Stp} {v u : Nat} (h : Trail last v u) {s : Stp} (hs : last[v]? = some s) : u = v ∨ Trail last s.src.toNat u := by
  cases h with
  | refl => exact .inl rfl
  | step h1 h2 h3 => rw [hs] at h1; cases h1; exact .inr h3

section
variable {N : Int} {arcs : List Arc} {wl x : List Int} {mo p : Nat → Int} {cost : List Int} {last : List Stp} {rk : Nat → Nat} {st : List Stp} {n : Nat}
theorem Trail.facts (hn : Nearest n st mo cost last rk) (hst : ∀ s, s ∈ st → 0 ≤ s.src ∧ s.src < n ∧ 0 ≤ s.cost) {v u : Nat} (h : Trail last v u) : v < n → nth cost v < far → u < n ∧ nth cost u < far ∧ nth cost u ≤ nth cost v ∧ rk u ≤ rk v := by
  induction h with
  | refl v => intro h1 h2; exact ⟨h1, h2, Int.le_refl _, Nat.le_refl _⟩
  | step h1 h2 _ ih =>
    intro hv hf
    rcases hn.fin _ hv hf _ h1 with ⟨h3, _⟩ | ⟨_, h4, h5, h6, h7, h8⟩
    · omega
    · have h9 := hst _ h4
      have h10 := ih (by omega) h6
      exact ⟨h10.1, h10.2.1, by omega, by omega⟩

/-- How much more a step carries. -/
def ResOk (arcs : List Arc) (x : List Int) (much : Int) (s : Stp) : Prop :=
  ∀ (a : Arc) (y : Int), arcs[s.arc.toNat]? = some a → x[s.arc.toNat]? = some y → (s.back = true → much ≤ y - a.lo) ∧ (s.back = false → much ≤ a.hi - y)
theorem ResOk.le {much much' : Int} {s : Stp} (h : ResOk arcs x much s) (hm : much' ≤ much) : ResOk arcs x much' s := fun a y ha hy => by
  obtain ⟨h1, h2⟩ := h a y ha hy
  exact ⟨fun hb => by have := h1 hb; omega, fun hb => by have := h2 hb; omega⟩

theorem ResOk.of {much : Int} {s : Stp} {a : Arc} {y : Int} (ha : arcs[s.arc.toNat]? = some a) (hy : x[s.arc.toNat]? = some y) (h1 : s.back = true → much ≤ y - a.lo) (h2 : s.back = false → much ≤ a.hi - y) : ResOk arcs x much s := by
  intro a' y' ha' hy'
  have e1 : a' = a := Option.some.inj (ha'.symm.trans ha)
  have e2 : y' = y := Option.some.inj (hy'.symm.trans hy)
  subst e1; subst e2
  exact ⟨h1, h2⟩
/-- What a step's arc is, and that it carries more. -/
theorem step_arc {s : Stp} (h : s ∈ stps p 0 arcs x wl) : ∃ a y, arcs[s.arc.toNat]? = some a ∧ x[s.arc.toNat]? = some y ∧
    ((s.back = true ∧ a.lo < y ∧ s.src = a.dst ∧ s.dst = a.src) ∨ (s.back = false ∧ y < a.hi ∧ s.src = a.src ∧ s.dst = a.dst)) := by
  obtain ⟨i, a, y, q, ha, hy, hq, hs1⟩ := mem_stps h
  rw [Nat.zero_add] at hs1
  rcases mem_stp1.1 hs1 with ⟨h1, rfl⟩ | ⟨h1, rfl⟩
  · exact ⟨a, y, ha, hy, .inr ⟨rfl, h1, rfl, rfl⟩⟩
  · exact ⟨a, y, ha, hy, .inl ⟨rfl, h1, rfl, rfl⟩⟩

/-- No two steps of a way go along one arc. -/
theorem way_inj (hV : Valid N arcs) (hn : Nearest N.toNat (stps p 0 arcs x wl) mo cost last rk) (hst : ∀ s, s ∈ stps p 0 arcs x wl → 0 ≤ s.cost) {at_ v : Nat} {s t : Stp} (hv : at_ < N.toNat) (hf : nth cost at_ < far)
    (hs : last[at_]? = some s) (ha : 0 ≤ s.arc) (hr : Trail last s.src.toNat v) (ht : last[v]? = some t) : t.arc ≠ s.arc := by
  intro e
  rcases hn.fin _ hv hf _ hs with ⟨h3, _⟩ | ⟨_, h4, h5, h6, h7, h8⟩
  · omega
  · have hok := stps_ok hV h4
    have hst' : ∀ s, s ∈ stps p 0 arcs x wl → 0 ≤ s.src ∧ s.src < N.toNat ∧ 0 ≤ s.cost := fun s hs => by
      have h1 := stps_ok hV hs; have h2 := hst s hs; omega
    obtain ⟨k1, k2, _, k4⟩ := hr.facts hn hst' (by omega) h6
    rcases hn.fin _ k1 k2 _ ht with ⟨h3, _⟩ | ⟨_, m4, m5, m6, m7, m8⟩
    · omega
    · have hokt := stps_ok hV m4
      obtain ⟨a, y, b1, b2, b3⟩ := step_arc h4
      obtain ⟨a', y', c1, c2, c3⟩ := step_arc m4
      rw [e] at c1
      have : a' = a := Option.some.inj (c1.symm.trans b1)
      subst this
      rcases b3 with ⟨_, _, g1, g2⟩ | ⟨_, _, g1, g2⟩ <;> rcases c3 with ⟨_, _, f1, f2⟩ | ⟨_, _, f1, f2⟩
      · have : v = at_ := by omega
        subst this; omega
      · have e1 : t.src.toNat = at_ := by omega
        rw [e1] at m8; omega
      · have e1 : t.src.toNat = at_ := by omega
        rw [e1] at m8; omega
      · have : v = at_ := by omega
        subst this; omega
end

theorem ex_set : ∀ (as : List Arc) (ys : List Int) (i : Nat) (a : Arc) (y z : Int) (v : Nat), as[i]? = some a → ys[i]? = some y → ex as (ys.set i z) v = ex as ys v + ((if a.dst = v then z - y else 0) - (if a.src = v then z - y else 0)) := by
  intro as
  induction as with
  | nil => intro ys i a y z v h; simp at h
  | cons b as ih =>
    intro ys i a y z v h1 h2
    cases ys with
    | nil => simp at h2
    | cons u ys =>
      cases i with
      | zero =>
        simp at h1 h2; subst h1; subst h2
        simp only [List.set_cons_zero, ex]
        split <;> split <;> omega
      | succ i =>
        simp only [List.set_cons_succ, ex, ih ys i a y z v (by simpa using h1) (by simpa using h2)]
        omega

/-- While what is led is laid on the steps of the way, from its end. -/
structure Aug (arcs : List Arc) (wl x : List Int) (much : Int) (p' : Nat → Int) (last : List Stp) (to at_ : Nat) (x' : List Int) : Prop where
  len : x'.length = x.length
  same : ∀ v t, Trail last at_ v → last[v]? = some t → 0 ≤ t.arc → x'[t.arc.toNat]? = x[t.arc.toNat]?
  exq : ∀ v : Nat, ex arcs x' v = ex arcs x v + (if v = to then much else 0) - (if v = at_ then much else 0)
  bds : Bds arcs x'
  red : ∀ s, s ∈ stps p' 0 arcs x' wl → 0 ≤ s.cost

section
variable {N : Int} {arcs : List Arc} {wl x x' : List Int} {mo p p' : Nat → Int} {cost : List Int} {last : List Stp} {rk : Nat → Nat} {to at_ : Nat} {much : Int}

theorem Aug.start (hb : Bds arcs x) (hr : ∀ s, s ∈ stps p' 0 arcs x wl → 0 ≤ s.cost) : Aug arcs wl x much p' last to to x :=
  ⟨rfl, fun _ _ _ _ _ => rfl, fun v => by split <;> omega, hb, hr⟩

theorem Aug.step (h : Aug arcs wl x much p' last to at_ x') (hV : Valid N arcs) {s : Stp} {y : Int} (hs : last[at_]? = some s) (ha : 0 ≤ s.arc) (hm : 0 ≤ much)
    (hin : s ∈ stps p 0 arcs x wl) (hdst : s.dst = (at_ : Int)) (htight : (⟨s.arc, s.back, s.src, s.dst, 0⟩ : Stp) ∈ stps p' 0 arcs x wl) (hres : ResOk arcs x much s)
    (hinj : ∀ v t, Trail last s.src.toNat v → last[v]? = some t → 0 ≤ t.arc → t.arc ≠ s.arc) (hy : x'[s.arc.toNat]? = some y) {z : Int} (hz : (s.back = true ∧ z = y - much) ∨ (s.back = false ∧ z = y + much)) :
    Aug arcs wl x much p' last to s.src.toNat (x'.set s.arc.toNat z) := by
  have hok := stps_ok hV hin
  obtain ⟨a, y0, ha0, hy0, hcase⟩ := step_arc hin
  have hyy : y0 = y := by
    have := h.same at_ s (.refl _) hs ha
    rw [hy, hy0] at this
    exact (Option.some.inj this).symm
  subst hyy
  have hil := (List.getElem?_eq_some_iff.1 hy).1
  have hr0 := hres a y0 ha0 hy0
  have hb0 := h.bds.2 _ a y0 ha0 hy
  refine ⟨by rw [List.length_set]; exact h.len, fun v t hv ht hta => ?_, fun v => ?_, ⟨by rw [List.length_set]; exact h.bds.1, fun i b u hbi hui => ?_⟩, fun t ht => ?_⟩
  · have hne := hinj v t hv ht hta
    have hok2 : s.arc.toNat ≠ t.arc.toNat := by omega
    rw [List.getElem?_set_ne hok2]
    exact h.same v t (.step hs ha hv) ht hta
  · rw [ex_set arcs x' s.arc.toNat a y0 z v ha0 hy, h.exq v]
    have e1 : (a.dst = (v : Int)) ↔ v = a.dst.toNat := by have := hV.at ha0; omega
    have e2 : (a.src = (v : Int)) ↔ v = a.src.toNat := by have := hV.at ha0; omega
    simp only [e1, e2]
    rcases hcase with ⟨hb, _, g1, g2⟩ | ⟨hb, _, g1, g2⟩ <;> rcases hz with ⟨hb2, rfl⟩ | ⟨hb2, rfl⟩
    · have f1 : s.src.toNat = a.dst.toNat := by omega
      have f2 : at_ = a.src.toNat := by omega
      rw [f1, f2]
      by_cases c1 : v = a.dst.toNat <;> by_cases c2 : v = a.src.toNat <;> simp only [c1, c2, if_true, if_false] <;> split <;> omega
    · rw [hb] at hb2; cases hb2
    · rw [hb] at hb2; cases hb2
    · have f1 : s.src.toNat = a.src.toNat := by omega
      have f2 : at_ = a.dst.toNat := by omega
      rw [f1, f2]
      by_cases c1 : v = a.dst.toNat <;> by_cases c2 : v = a.src.toNat <;> simp only [c1, c2, if_true, if_false] <;> split <;> omega
  · rw [List.getElem?_set] at hui
    by_cases e : s.arc.toNat = i
    · subst e
      simp only [hil, if_true] at hui
      have hu : u = z := (Option.some.inj hui).symm
      have hba : b = a := Option.some.inj (hbi.symm.trans ha0)
      subst hu; subst hba
      rcases hz with ⟨hb2, rfl⟩ | ⟨hb2, rfl⟩
      · have := hr0.1 hb2; omega
      · have := hr0.2 hb2; omega
    · simp only [e, if_false] at hui
      exact h.bds.2 i b u hbi hui
  · obtain ⟨i, b, u, q, hbi, hui, hq, ht1⟩ := mem_stps ht
    rw [Nat.zero_add] at ht1
    rw [List.getElem?_set] at hui
    by_cases e : s.arc.toNat = i
    · subst e
      have hba : b = a := Option.some.inj (hbi.symm.trans ha0)
      subst hba
      obtain ⟨j, b2, u2, q2, k1, k2, k3, k4⟩ := mem_stps htight
      rw [Nat.zero_add] at k4
      have hj : j = s.arc.toNat ∧ cst p' b2 q2 = 0 := by
        rcases mem_stp1.1 k4 with ⟨_, e4⟩ | ⟨_, e4⟩
        · simp only [fwd, Stp.mk.injEq] at e4
          exact ⟨by omega, e4.2.2.2.2.symm⟩
        · simp only [bwd, Stp.mk.injEq] at e4
          exact ⟨by omega, by omega⟩
      obtain ⟨rfl, hz0⟩ := hj
      have e5 : b2 = b := Option.some.inj (k1.symm.trans hbi)
      have e6 : q2 = q := Option.some.inj (k3.symm.trans hq)
      subst e5; subst e6
      rcases mem_stp1.1 ht1 with ⟨_, rfl⟩ | ⟨_, rfl⟩ <;> simp only [fwd, bwd] <;> omega
    · simp only [e, if_false] at hui
      exact h.red t (mem_stps_of hbi hui hq ht1)

/-- How much too much there is. -/
def tot (mo : Nat → Int) : Nat := ((List.range 1000).map fun v => (mo v).toNat).sum
theorem sum_lt {f g : Nat → Nat} (hle : ∀ v, f v ≤ g v) {u : Nat} : ∀ {l : List Nat}, u ∈ l → f u < g u → (l.map f).sum < (l.map g).sum := by
  intro l
  induction l with
  | nil => intro h; cases h
  | cons w l ih =>
    intro hu hlt
    have hsum : ∀ l : List Nat, (l.map f).sum ≤ (l.map g).sum := by
      intro l
      induction l with
      | nil => simp
      | cons a l ih => have := hle a; simp only [List.map_cons, List.sum_cons]; omega
    have h1 := hle w
    have h2 := hsum l
    simp only [List.map_cons, List.sum_cons]
    rcases List.mem_cons.1 hu with rfl | hu
    · omega
    · have := ih hu hlt; omega

/-- Behind the leading. -/
theorem Cn.led (h : Cn N arcs wl x mo p) (hV : Valid N arcs) (hw : Wts arcs wl) (hn : Nearest N.toNat (stps p 0 arcs x wl) mo cost last rk) {from_ : Nat} (hto : to < N.toNat) (htd : mo to < 0) (htf : nth cost to < far)
    (hmin : ∀ u, u < N.toNat → mo u < 0 → nth cost to ≤ nth cost u) (hfr : from_ < N.toNat) (hfs : 0 < mo from_) (hm : 0 < much ∧ much ≤ -mo to ∧ much ≤ mo from_)
    (hA : Aug arcs wl x much (nextp N.toNat cost (nth cost to) p) last to from_ x') :
    Cn N arcs wl x' (upf (upf mo from_ (mo from_ - much)) to (upf mo from_ (mo from_ - much) to + much)) (nextp N.toNat cost (nth cost to) p) ∧
      tot (upf (upf mo from_ (mo from_ - much)) to (upf mo from_ (mo from_ - much) to + much)) < tot mo := by
  have hne : to ≠ from_ := fun e => by rw [e] at htd; omega
  have hmo : ∀ v, upf (upf mo from_ (mo from_ - much)) to (upf mo from_ (mo from_ - much) to + much) v = mo v + (if v = to then much else 0) - (if v = from_ then much else 0) := by
    intro v
    simp only [upf, hne, if_false]
    by_cases c1 : v = to
    · subst c1; simp [hne]
    · by_cases c2 : v = from_
      · subst c2; simp [c1]
      · simp [c1, c2]
  have hN := hV.max
  have hk0 := hn.nonneg to hto
  obtain ⟨D, hD1, hD2⟩ := h.pd
  have hDto := hD2 to hto htd
  have hway := way_bd h hV hw hn (rk to) to (Nat.le_refl _) hto htf
  have hrk := hn.rkl to hto htf
  have hnp : ∀ v, nextp N.toNat cost (nth cost to) p v ≤ D + nth cost to ∧ 0 ≤ nextp N.toNat cost (nth cost to) p v := by
    intro v
    have h1 := hD1 v
    have h2 := h.pb v
    simp only [nextp]
    split
    · rename_i hv
      have := hn.nonneg v hv
      omega
    · omega
  refine ⟨⟨hA.bds, ?_, hA.red, fun v => ?_, fun v hv hp => ?_, ⟨D + nth cost to, fun v => (hnp v).1, fun v hv hp => ?_⟩⟩, ?_⟩
  · funext v
    rw [hmo, hA.exq v, h.meq]
  · have := hnp v; omega
  · rw [hmo] at hp
    have hmv : 0 < mo v := by
      by_cases c : v = to
      · subst c; simp [hne] at hp; omega
      · simp only [c, if_false] at hp
        split at hp <;> omega
    have h1 := h.pz v hv hmv
    have h2 := hn.src v hv hmv
    simp only [nextp, hv, if_true, h1, h2]
    omega
  · rw [hmo] at hp
    have hmv : mo v < 0 := by
      by_cases c : v = from_
      · subst c
        have : ¬ v = to := fun e => hne e.symm
        simp only [this, if_false, if_true] at hp; omega
      · simp only [c, if_false] at hp
        split at hp <;> omega
    have h1 := hD2 v hv hmv
    have h2 := hmin v hv hmv
    simp only [nextp, hv, if_true, h1]
    omega
  · refine sum_lt (u := from_) (fun v => ?_) (List.mem_range.2 (by omega)) ?_
    · rw [hmo]
      by_cases c1 : v = to
      · subst c1; simp [hne]; omega
      · simp only [c1, if_false]
        split <;> omega
    · rw [hmo]
      have : ¬ from_ = to := fun e => hne e.symm
      simp only [this, if_false, if_true]
      omega
end

theorem much_step {arcs : List Arc} {x : List Int} {last : List Stp} {to at_ : Nat} {much m' : Int} {s : Stp} (h : ∀ v t, Trail last to v → last[v]? = some t → Trail last at_ v ∨ (0 ≤ t.arc ∧ ResOk arcs x much t))
    (hs : last[at_]? = some s) (ha : 0 ≤ s.arc) (hres : ResOk arcs x m' s) (hle : m' ≤ much) : ∀ v t, Trail last to v → last[v]? = some t → Trail last s.src.toNat v ∨ (0 ≤ t.arc ∧ ResOk arcs x m' t) := by
  intro v t hv ht
  rcases h v t hv ht with h1 | ⟨h1, h2⟩
  · rcases h1.split hs with rfl | h1
    · rw [hs] at ht; cases ht; exact .inr ⟨ha, hres⟩
    · exact .inl h1
  · exact .inr ⟨h1, h2.le hle⟩

theorem ex_bd_all {N : Int} {arcs : List Arc} {x : List Int} (hV : Valid N arcs) (hx : Amts arcs x) (v : Nat) : -4000000000 ≤ ex arcs x v ∧ ex arcs x v ≤ 4000000000 := by
  have h := ex_bd_take hV hx arcs.length v
  rw [List.take_length, List.take_of_length_le (by rw [hx.len]; exact Nat.le_refl _)] at h
  exact h

/-! ### the start -/

/-- The amounts at first: each is the better end of its arc. -/
def x0 : List Arc → List Int → List Int
  | a :: as, q :: qs => (if 0 < q then a.hi else a.lo) :: x0 as qs
  | _, _ => []
theorem x0_length : ∀ (as : List Arc) (qs : List Int), as.length = qs.length → (x0 as qs).length = as.length := by
  intro as
  induction as with
  | nil => intro qs _; simp [x0]
  | cons a as ih =>
    intro qs h
    cases qs with
    | nil => simp at h
    | cons q qs => simp [x0, ih qs (by simpa using h)]
theorem x0_get : ∀ (as : List Arc) (qs : List Int) (i : Nat) (a : Arc) (q : Int), as[i]? = some a → qs[i]? = some q → (x0 as qs)[i]? = some (if 0 < q then a.hi else a.lo) := by
  intro as
  induction as with
  | nil => intro qs i a q h; simp at h
  | cons b as ih =>
    intro qs i a q h1 h2
    cases qs with
    | nil => simp at h2
    | cons r qs =>
      cases i with
      | zero => simp at h1 h2; subst h1; subst h2; rfl
      | succ i => simpa [x0] using ih qs i a q (by simpa using h1) (by simpa using h2)

/-- The start is a state without steps of cost below 0, if no arc's bounds cross. -/
theorem Cn.start {N : Int} {arcs : List Arc} {wl : List Int} (hw : Wts arcs wl) (hle : ∀ a, a ∈ arcs → a.lo ≤ a.hi) : Cn N arcs wl (x0 arcs wl) (ex arcs (x0 arcs wl)) fun _ => 0 := by
  have hl := x0_length arcs wl hw.len.symm
  refine ⟨⟨hl, fun i a y ha hy => ?_⟩, rfl, fun s hs => ?_, fun v => by omega, fun v _ _ => rfl, ⟨0, fun v => Int.le_refl _, fun v _ _ => rfl⟩⟩
  · obtain ⟨q, hq⟩ : ∃ q, wl[i]? = some q := ⟨_, List.getElem?_eq_getElem (by rw [hw.len]; exact (List.getElem?_eq_some_iff.1 ha).1)⟩
    rw [x0_get arcs wl i a q ha hq] at hy
    have hy' : y = if 0 < q then a.hi else a.lo := (Option.some.inj hy).symm
    have := hle a (List.mem_of_getElem? ha)
    subst hy'
    split <;> omega
  · obtain ⟨i, a, y, q, ha, hy, hq, hs1⟩ := mem_stps hs
    rw [x0_get arcs wl i a q ha hq] at hy
    have hy' : y = if 0 < q then a.hi else a.lo := (Option.some.inj hy).symm
    subst hy'
    rcases mem_stp1.1 hs1 with ⟨h1, rfl⟩ | ⟨h1, rfl⟩
    · simp only [fwd, cst]; split at h1 <;> omega
    · simp only [bwd, cst]; split at h1 <;> omega

theorem splice_car {N : Int} {va vx vw u1 u2 : Value} {m p : Nat → Int} : splice (carC N va vx vw m p) 0 [.int .i64 5, u1] = carC 5 u1 vx vw m p ∧ splice (carC N va vx vw m p) 2 [u2] = carC N va u2 vw m p := ⟨rfl, rfl⟩

theorem x0_amts {N : Int} {arcs : List Arc} {wl : List Int} (hV : Valid N arcs) (hw : Wts arcs wl) : Amts arcs (x0 arcs wl) := by
  have hl := x0_length arcs wl hw.len.symm
  refine ⟨hl, fun y hy => ?_⟩
  obtain ⟨i, hi, rfl⟩ := List.mem_iff_getElem.1 hy
  obtain ⟨a, ha⟩ : ∃ a, arcs[i]? = some a := ⟨_, List.getElem?_eq_getElem (by omega)⟩
  obtain ⟨q, hq⟩ : ∃ q, wl[i]? = some q := ⟨_, List.getElem?_eq_getElem (by rw [hw.len]; omega)⟩
  have h1 := x0_get arcs wl i a q ha hq
  rw [List.getElem?_eq_getElem hi] at h1
  have h2 := hV.at ha
  rw [Option.some.inj h1]
  split <;> omega

/-- A sum over the first n nodes. -/
def sm (f : Nat → Int) : Nat → Int
  | 0 => 0
  | n + 1 => sm f n + f n
theorem sm_add (f g : Nat → Int) (n : Nat) : sm (fun v => f v + g v) n = sm f n + sm g n := by
  induction n with
  | zero => rfl
  | succ n ih => simp only [sm, ih]; omega
theorem sm_sub (f g : Nat → Int) (n : Nat) : sm (fun v => f v - g v) n = sm f n - sm g n := by
  induction n with
  | zero => rfl
  | succ n ih => simp only [sm, ih]; omega
theorem sm_congr {f g : Nat → Int} {n : Nat} (h : ∀ v, v < n → f v = g v) : sm f n = sm g n := by
  induction n with
  | zero => rfl
  | succ n ih => simp only [sm, ih fun v hv => h v (by omega), h n (by omega)]
theorem sm_zero (n : Nat) : sm (fun _ => 0) n = 0 := by
  induction n with
  | zero => rfl
  | succ n ih => simp [sm, ih]
theorem sm_one (d y : Int) (P : Nat → Bool) (n : Nat) : sm (fun v => if P v = true then (if d = (v : Int) then y else 0) else 0) n = if 0 ≤ d ∧ d < n ∧ P d.toNat = true then y else 0 := by
  induction n with
  | zero => simp only [sm]; rw [if_neg (by omega)]
  | succ n ih =>
    simp only [sm, ih]
    by_cases e : d = (n : Int)
    · have e1 : d.toNat = n := by omega
      have h1 : ¬ (0 ≤ d ∧ d < n ∧ P d.toNat = true) := by omega
      rw [if_neg h1]
      by_cases hp : P n = true
      · have h2 : 0 ≤ d ∧ d < (n + 1 : Nat) ∧ P d.toNat = true := ⟨by omega, by omega, by rw [e1]; exact hp⟩
        rw [if_pos h2, if_pos hp, if_pos e]; omega
      · have h2 : ¬ (0 ≤ d ∧ d < (n + 1 : Nat) ∧ P d.toNat = true) := fun h => hp (by rw [← e1]; exact h.2.2)
        rw [if_neg h2, if_neg hp]; omega
    · have h0 : (if P n = true then (if d = (n : Int) then y else 0) else 0) = 0 := by rw [if_neg e]; split <;> rfl
      rw [h0, Int.add_zero]
      by_cases h1 : 0 ≤ d ∧ d < n ∧ P d.toNat = true
      · rw [if_pos h1, if_pos ⟨h1.1, by omega, h1.2.2⟩]
      · rw [if_neg h1, if_neg fun h => h1 ⟨h.1, by omega, h.2.2⟩]
theorem sm_pos {f : Nat → Int} {n u : Nat} (h : ∀ v, v < n → 0 ≤ f v) (hu : u < n) (hf : 0 < f u) : 0 < sm f n := by
  have hnn : ∀ m, m ≤ n → 0 ≤ sm f m := by
    intro m
    induction m with
    | zero => intro _; exact Int.le_refl _
    | succ m ih => intro hm; have := ih (by omega); have := h m (by omega); simp only [sm]; omega
  induction n with
  | zero => omega
  | succ n ih =>
    simp only [sm]
    have h1 := hnn n (by omega)
    have h2 := h n (by omega)
    rcases Nat.lt_or_ge u n with hu' | hu'
    · have := ih (fun v hv => h v (by omega)) hu' (fun m hm => hnn m (by omega)); omega
    · have : u = n := by omega
      subst this; omega

/-- What nodes have too much, together: by what goes over the cut. -/
def flux (P : Nat → Bool) : List Arc → List Int → Int
  | a :: as, y :: ys => (if P a.dst.toNat = true then y else 0) - (if P a.src.toNat = true then y else 0) + flux P as ys
  | _, _ => 0
theorem sm_ex {N : Int} (P : Nat → Bool) : ∀ (as : List Arc) (ys : List Int), (∀ a ∈ as, okArc N a = true) → sm (fun v => if P v = true then ex as ys v else 0) N.toNat = flux P as ys := by
  intro as
  induction as with
  | nil =>
    intro ys _
    simp only [ex, flux]
    rw [sm_congr (g := fun _ => 0) (fun v _ => by split <;> rfl), sm_zero]
  | cons a as ih =>
    intro ys h
    cases ys with
    | nil =>
      simp only [ex, flux]
      rw [sm_congr (g := fun _ => 0) (fun v _ => by split <;> rfl), sm_zero]
    | cons y ys =>
      have hok := okArc_iff.1 (h a (List.mem_cons_self ..))
      have h1 := ih ys fun b hb => h b (List.mem_cons_of_mem _ hb)
      have h2 := sm_one a.dst y P N.toNat
      have h3 := sm_one a.src y P N.toNat
      have e2 : (if 0 ≤ a.dst ∧ a.dst < N.toNat ∧ P a.dst.toNat = true then y else 0) = if P a.dst.toNat = true then y else 0 := by
        by_cases c : P a.dst.toNat = true
        · rw [if_pos c, if_pos ⟨by omega, by omega, c⟩]
        · rw [if_neg c, if_neg fun h => c h.2.2]
      have e3 : (if 0 ≤ a.src ∧ a.src < N.toNat ∧ P a.src.toNat = true then y else 0) = if P a.src.toNat = true then y else 0 := by
        by_cases c : P a.src.toNat = true
        · rw [if_pos c, if_pos ⟨by omega, by omega, c⟩]
        · rw [if_neg c, if_neg fun h => c h.2.2]
      rw [e2] at h2
      rw [e3] at h3
      simp only [flux, ← h1, ← h2, ← h3]
      rw [← sm_sub, ← sm_add]
      apply sm_congr
      intro v _
      simp only [ex]
      split <;> omega

/-- The nodes below i that no way leads to. -/
def und (cost : List Int) (i : Nat) : List Int := ((List.range i).filter fun v => decide (¬ nth cost v < far)).map fun (v : Nat) => (v : Int)
theorem mem_und {cost : List Int} {i : Nat} {x : Int} : x ∈ und cost i ↔ ∃ v : Nat, v < i ∧ ¬ nth cost v < far ∧ x = (v : Int) := by
  simp only [und, List.mem_map, List.mem_filter, List.mem_range, decide_eq_true_eq]
  constructor
  · rintro ⟨v, ⟨h1, h2⟩, rfl⟩; exact ⟨v, h1, h2, rfl⟩
  · rintro ⟨v, h1, h2, rfl⟩; exact ⟨v, ⟨h1, h2⟩, rfl⟩
theorem und_zero {cost : List Int} : und cost 0 = [] := rfl
theorem und_in {cost : List Int} {i : Nat} (h : ¬ nth cost i < far) : und cost (i + 1) = und cost i ++ [(i : Int)] := by
  have h1 : [i].filter (fun v => decide (¬ nth cost v < far)) = [i] := List.filter_cons_of_pos (decide_eq_true h)
  rw [und, List.range_succ, List.filter_append, h1, List.map_append]
  rfl
theorem und_out {cost : List Int} {i : Nat} (h : nth cost i < far) : und cost (i + 1) = und cost i := by
  have h1 : [i].filter (fun v => decide (¬ nth cost v < far)) = [] := List.filter_cons_of_neg (by rw [decide_eq_true_eq]; exact fun q => q h)
  rw [und, List.range_succ, List.filter_append, h1, List.append_nil]
  rfl
theorem und_len (cost : List Int) (i : Nat) : (und cost i).length ≤ i := by
  have := List.length_filter_le (fun v => decide (¬ nth cost v < far)) (List.range i)
  simp only [und, List.length_map]
  rw [List.length_range] at this
  exact this
theorem asc_of {N : Int} : ∀ (l : List Int) (last : Int), l.Pairwise (· < ·) → (∀ v ∈ l, last + 1 ≤ v ∧ v ≤ N - 1) → asc N last l = true := by
  intro l
  induction l with
  | nil => intro _ _ _; rfl
  | cons a l ih =>
    intro last hp hb
    rw [List.pairwise_cons] at hp
    simp only [asc, Bool.and_eq_true, decide_eq_true_eq]
    refine ⟨hb a (List.mem_cons_self ..), ih a hp.2 fun v hv => ?_⟩
    have := hp.1 v hv
    have := hb v (List.mem_cons_of_mem _ hv)
    omega
theorem und_asc {cost : List Int} {N : Int} : asc N (-1) (und cost N.toNat) = true := by
  refine asc_of _ _ ?_ fun v hv => ?_
  · unfold und
    rw [List.pairwise_map]
    exact (List.pairwise_lt_range.filter _).imp fun h => by omega
  · obtain ⟨u, hu, _, rfl⟩ := mem_und.1 hv
    omega

theorem foldl_add (l : List Int) : ∀ a, l.foldl (· + ·) a = a + l.foldl (· + ·) 0 := by
  induction l with
  | nil => intro a; simp
  | cons b l ih => intro a; rw [List.foldl_cons, List.foldl_cons, ih, ih (0 + b)]; omega
theorem csum_append (s t : List (Arc × Bool)) : csum (s ++ t) = csum s + csum t := by
  simp only [csum, List.map_append, List.foldl_append]
  rw [foldl_add]

/-- What goes over a cut that no step crosses. -/
theorem flux_cut (U : List Int) (P : Nat → Bool) : ∀ (as : List Arc) (ys : List Int), as.length = ys.length → (∀ a ∈ as, (a.src ∈ U ↔ P a.src.toNat = true) ∧ (a.dst ∈ U ↔ P a.dst.toNat = true)) →
    (∀ (i : Nat) (a : Arc) (y : Int), as[i]? = some a → ys[i]? = some y → (P a.src.toNat = true → ¬ P a.dst.toNat = true → y = a.lo) ∧ (P a.dst.toNat = true → ¬ P a.src.toNat = true → y = a.hi)) →
    csum (cutl U as) = - flux P as ys := by
  intro as
  induction as with
  | nil => intro ys _ _ _; simp [cutl, csum, flux]
  | cons a as ih =>
    intro ys hl hU h
    cases ys with
    | nil => simp at hl
    | cons y ys =>
      have h1 := ih ys (by simpa using hl) (fun b hb => hU b (List.mem_cons_of_mem _ hb)) fun i b z hb hz => h (i + 1) b z (by simpa using hb) (by simpa using hz)
      have h2 := h 0 a y rfl rfl
      obtain ⟨u1, u2⟩ := hU a (List.mem_cons_self ..)
      have hc : cutl U (a :: as) = cut1 U a ++ cutl U as := by simp [cutl]
      rw [hc, csum_append, h1]
      simp only [flux]
      unfold cut1
      by_cases c1 : P a.src.toNat = true <;> by_cases c2 : P a.dst.toNat = true
      · have e1 := u1.2 c1; have e2 := u2.2 c2
        simp [e1, e2, c1, c2, csum]
      · have e1 := u1.2 c1; have e2 : ¬ a.dst ∈ U := fun q => c2 (u2.1 q)
        have := h2.1 c1 c2
        simp [e1, e2, c1, c2, csum, csum1]; omega
      · have e1 : ¬ a.src ∈ U := fun q => c1 (u1.1 q); have e2 := u2.2 c2
        have := h2.2 c2 c1
        simp [e1, e2, c1, c2, csum, csum1]; omega
      · have e1 : ¬ a.src ∈ U := fun q => c1 (u1.1 q); have e2 : ¬ a.dst ∈ U := fun q => c2 (u2.1 q)
        simp [e1, e2, c1, c2, csum]

theorem flux_compl {P Q : Nat → Bool} (h : ∀ v, P v = !Q v) : ∀ (as : List Arc) (ys : List Int), flux P as ys + flux Q as ys = 0 := by
  intro as
  induction as with
  | nil => intro ys; simp [flux]
  | cons a as ih =>
    intro ys
    cases ys with
    | nil => simp [flux]
    | cons y ys =>
      have := ih ys
      simp only [flux, h]
      cases Q a.src.toNat <;> cases Q a.dst.toNat <;> simp <;> omega

/-- The nodes that no way leads to are an obstacle. -/
theorem obst {N : Int} {arcs : List Arc} {wl x : List Int} {mo p : Nat → Int} {cost : List Int} {last : List Stp} {rk : Nat → Nat} (h : Cn N arcs wl x mo p) (hV : Valid N arcs) (hw : Wts arcs wl)
    (hn : Nearest N.toNat (stps p 0 arcs x wl) mo cost last rk) (hno : ∀ v, v < N.toNat → mo v < 0 → ¬ nth cost v < far) (hex : ∃ u : Nat, u < 1000 ∧ 0 < mo u) : hind N arcs (-1) (und cost N.toNat) = true := by
  rw [hind, if_neg (by omega), und_asc, Bool.true_and, decide_eq_true_eq]
  have hfar : far = 1152921504606846976 := rfl
  have hcost := h.cost hw
  have hmem : ∀ d : Int, 0 ≤ d → d < N → (d ∈ und cost N.toNat ↔ decide (¬ nth cost d.toNat < far) = true) := by
    intro d h1 h2
    rw [mem_und, decide_eq_true_eq]
    constructor
    · rintro ⟨v, _, h3, rfl⟩; simpa using h3
    · intro h3; exact ⟨d.toNat, by omega, h3, by omega⟩
  have key := flux_cut (und cost N.toNat) (fun v => decide (¬ nth cost v < far)) arcs x (by rw [h.bds.1]) (fun a ha => by
    have hok := okArc_iff.1 (hV.ok a ha)
    exact ⟨hmem _ (by omega) (by omega), hmem _ (by omega) (by omega)⟩) (fun i a y ha hy => by
    have hok := hV.at ha
    have hb := h.bds.2 i a y ha hy
    obtain ⟨q, hq⟩ : ∃ q, wl[i]? = some q := ⟨_, List.getElem?_eq_getElem (by rw [hw.len]; exact (List.getElem?_eq_some_iff.1 ha).1)⟩
    simp only [decide_eq_true_eq]
    refine ⟨fun c1 c2 => ?_, fun c1 c2 => ?_⟩
    · apply Classical.byContradiction
      intro hne
      have hs : bwd p i a q ∈ stps p 0 arcs x wl := mem_stps_of ha hy hq (mem_stp1.2 (.inr ⟨by omega, rfl⟩))
      have h1 := hn.relaxed _ hs
      have h2 := hcost _ hs
      simp only [bwd] at h1 h2
      have c2' : nth cost a.dst.toNat < far := Classical.byContradiction c2
      have h3 := h1 c2'
      have h4 := hn.bd _ (by omega) c2'
      omega
    · apply Classical.byContradiction
      intro hne
      have hs : fwd p i a q ∈ stps p 0 arcs x wl := mem_stps_of ha hy hq (mem_stp1.2 (.inl ⟨by omega, rfl⟩))
      have h1 := hn.relaxed _ hs
      have h2 := hcost _ hs
      simp only [fwd] at h1 h2
      have c2' : nth cost a.src.toNat < far := Classical.byContradiction c2
      have h3 := h1 c2'
      have h4 := hn.bd _ (by omega) c2'
      omega)
  rw [key]
  have e1 := sm_ex (N := N) (fun v => decide (¬ nth cost v < far)) arcs x hV.ok
  have e2 := sm_ex (N := N) (fun v => decide (nth cost v < far)) arcs x hV.ok
  have e3 := flux_compl (P := fun v => decide (¬ nth cost v < far)) (Q := fun v => decide (nth cost v < far)) (fun v => by rw [decide_not]) arcs x
  obtain ⟨u, hu, hup⟩ := hex
  have huN : u < N.toNat := by
    rcases Nat.lt_or_ge u N.toNat with h1 | h1
    · exact h1
    · rw [h.meq, ex_out arcs x u hV.ok (by omega)] at hup
      omega
  have hpos : 0 < sm (fun v => if decide (nth cost v < far) = true then ex arcs x v else 0) N.toNat := by
    refine sm_pos (u := u) (fun v hv => ?_) huN ?_
    · have h1 := hno v hv
      rw [h.meq] at h1
      by_cases c : nth cost v < far
      · simp only [c, decide_true, if_true]
        rcases Int.lt_or_le (ex arcs x v) 0 with h2 | h2
        · exact absurd c (h1 h2)
        · exact h2
      · simp [c]
    · have h1 := hn.src u huN hup
      have h2 : nth cost u < far := by omega
      rw [h.meq] at hup
      simp only [h2, decide_true, if_true]; exact hup
  omega

theorem le_step {arcs : List Arc} {i : Nat} {a : Arc} (h : ∀ (j : Nat) (a : Arc), j < i → arcs[j]? = some a → a.lo ≤ a.hi) (ha : arcs[i]? = some a) (hl : a.lo ≤ a.hi) :
    ∀ (j : Nat) (b : Arc), j < i + 1 → arcs[j]? = some b → b.lo ≤ b.hi := by
  intro j b hj hb
  rcases Nat.lt_or_ge j i with h1 | h1
  · exact h j b h1 hb
  · have e : j = i := by omega
    subst e
    rw [ha] at hb
    cases hb
    exact hl
end Go.Vk.Flow

/- Nets, as plain mathematics, part 4: circulations, what hinders them, and potentials that show a greatest sum. No program in sight. -/
namespace Go.Vk.Flow
open Go

/-! ### circulations -/

/-- Amounts that are a circulation. -/
structure Circ (arcs : List Arc) (x : List Int) : Prop where
  bds : Bds arcs x
  zero : ∀ v : Nat, ex arcs x v = 0

theorem kept_iff {N : Int} {arcs : List Arc} {x : List Int} (hV : Valid N arcs) (hl : x.length = arcs.length) : kept 1000 arcs x = true ↔ Circ arcs x := by
  simp only [kept, Bool.and_eq_true, List.all_eq_true, List.mem_range, beq_iff_eq]
  constructor
  · rintro ⟨h1, h2⟩
    refine ⟨⟨hl, (within_iff arcs x hl.symm).1 h1⟩, fun v => ?_⟩
    rcases Nat.lt_or_ge v 1000 with h | h
    · exact h2 v h
    · exact ex_out arcs x v hV.ok (by have := hV.max; omega)
  · intro h
    exact ⟨(within_iff arcs x hl.symm).2 h.bds.2, fun v _ => h.zero v⟩

theorem Circ.amts {N : Int} {arcs : List Arc} {x : List Int} (h : Circ arcs x) (hV : Valid N arcs) : Amts arcs x := by
  refine ⟨h.bds.1, fun y hy => ?_⟩
  obtain ⟨i, hi, rfl⟩ := List.mem_iff_getElem.1 hy
  obtain ⟨a, ha⟩ : ∃ a, arcs[i]? = some a := ⟨_, List.getElem?_eq_getElem (by rw [← h.bds.1]; exact hi)⟩
  have h1 := h.bds.2 i a _ ha (List.getElem?_eq_getElem hi)
  have h2 := hV.at ha
  omega

theorem flux_circ {N : Int} {arcs : List Arc} {x : List Int} (hV : Valid N arcs) (h : Circ arcs x) (P : Nat → Bool) : flux P arcs x = 0 := by
  rw [← sm_ex (N := N) P arcs x hV.ok, sm_congr (g := fun _ => 0) (fun v _ => by rw [h.zero]; split <;> rfl), sm_zero]

theorem flux_all : ∀ (as : List Arc) (ys : List Int), flux (fun _ => true) as ys = 0 := by
  intro as
  induction as with
  | nil => intro ys; simp [flux]
  | cons a as ih =>
    intro ys
    cases ys with
    | nil => simp [flux]
    | cons y ys => simp only [flux, ih, if_true]; omega

/-- If no node has too much, none has too little. -/
theorem Cn.circ {N : Int} {arcs : List Arc} {wl x : List Int} {mo p : Nat → Int} (h : Cn N arcs wl x mo p) (hV : Valid N arcs) (hm : ∀ u : Nat, u < 1000 → mo u ≤ 0) : Circ arcs x := by
  refine ⟨h.bds, fun v => ?_⟩
  have hle : ∀ u, ex arcs x u ≤ 0 := fun u => by
    rcases Nat.lt_or_ge u 1000 with h1 | h1
    · have := hm u h1; rw [h.meq] at this; exact this
    · rw [ex_out arcs x u hV.ok (by have := hV.max; omega)]; omega
  rcases Nat.lt_or_ge v N.toNat with hv | hv
  · apply Classical.byContradiction
    intro hne
    have h1 : sm (fun u => ex arcs x u) N.toNat = 0 := by
      rw [← flux_all arcs x, ← sm_ex (N := N) _ arcs x hV.ok]
      exact sm_congr fun u _ => by simp
    have h2 := sm_pos (f := fun u => 0 - ex arcs x u) (n := N.toNat) (u := v) (fun u _ => by have := hle u; omega) hv (by have := hle v; omega)
    rw [sm_sub, sm_zero, h1] at h2
    exact absurd h2 (by decide)
  · exact ex_out arcs x v hV.ok (by omega)

theorem cut_le (U : List Int) (P : Nat → Bool) : ∀ (as : List Arc) (ys : List Int), as.length = ys.length → (∀ a ∈ as, (a.src ∈ U ↔ P a.src.toNat = true) ∧ (a.dst ∈ U ↔ P a.dst.toNat = true)) →
    (∀ (i : Nat) (a : Arc) (y : Int), as[i]? = some a → ys[i]? = some y → a.lo ≤ y ∧ y ≤ a.hi) → csum (cutl U as) ≤ - flux P as ys := by
  intro as
  induction as with
  | nil => intro ys _ _ _; simp [cutl, csum, flux]
  | cons a as ih =>
    intro ys hl hU h
    cases ys with
    | nil => simp at hl
    | cons y ys =>
      have h1 := ih ys (by simpa using hl) (fun b hb => hU b (List.mem_cons_of_mem _ hb)) fun i b z hb hz => h (i + 1) b z (by simpa using hb) (by simpa using hz)
      have h2 := h 0 a y rfl rfl
      obtain ⟨u1, u2⟩ := hU a (List.mem_cons_self ..)
      have hc : cutl U (a :: as) = cut1 U a ++ cutl U as := by simp [cutl]
      rw [hc, csum_append]
      simp only [flux]
      unfold cut1
      by_cases c1 : P a.src.toNat = true <;> by_cases c2 : P a.dst.toNat = true
      · have e1 := u1.2 c1; have e2 := u2.2 c2
        simp [e1, e2, c1, c2, csum] at h1 ⊢; omega
      · have e1 := u1.2 c1; have e2 : ¬ a.dst ∈ U := fun q => c2 (u2.1 q)
        simp [e1, e2, c1, c2, csum, csum1] at h1 ⊢; omega
      · have e1 : ¬ a.src ∈ U := fun q => c1 (u1.1 q); have e2 := u2.2 c2
        simp [e1, e2, c1, c2, csum, csum1] at h1 ⊢; omega
      · have e1 : ¬ a.src ∈ U := fun q => c1 (u1.1 q); have e2 : ¬ a.dst ∈ U := fun q => c2 (u2.1 q)
        simp [e1, e2, c1, c2, csum] at h1 ⊢; omega

/-- Where there is an obstacle nothing is a circulation. -/
theorem hind_no {N : Int} {arcs : List Arc} {x : List Int} {A : Int} {ns : List Int} (hV : Valid N arcs) (h : hind N arcs A ns = true) (hc : Circ arcs x) : False := by
  by_cases hA : 0 ≤ A
  · obtain ⟨a, ha, hlt⟩ := hind_bad h hA
    obtain ⟨y, hy⟩ : ∃ y, x[A.toNat]? = some y := ⟨_, List.getElem?_eq_getElem (by rw [hc.bds.1]; exact (List.getElem?_eq_some_iff.1 ha).1)⟩
    have := hc.bds.2 _ a y ha hy
    omega
  · obtain ⟨_, hasc, hpos⟩ := hind_cut h hA
    have h1 := cut_le ns (fun v => decide ((v : Int) ∈ ns)) arcs x hc.bds.1.symm (fun a ha => by
      have hok := okArc_iff.1 (hV.ok a ha)
      have e1 : ((a.src.toNat : Nat) : Int) = a.src := by omega
      have e2 : ((a.dst.toNat : Nat) : Int) = a.dst := by omega
      simp [e1, e2]) hc.bds.2
    rw [flux_circ hV hc] at h1
    omega

/-! ### sums and bounds -/

/-- The sum of what the arcs weigh with potentials. -/
def rdot (p : List Int) : List Arc → List Int → List Int → Int
  | a :: as, y :: ys, q :: qs => rst p a q * y + rdot p as ys qs
  | _, _, _ => 0
/-- What potentials add to a sum. -/
def lift (f : Nat → Int) : List Arc → List Int → Int
  | a :: as, y :: ys => (f a.dst.toNat * y - f a.src.toNat * y) + lift f as ys
  | _, _ => 0
theorem rdot_eq {p : List Int} : ∀ (as : List Arc) (ys qs : List Int), as.length = ys.length → as.length = qs.length → rdot p as ys qs = dot qs ys - lift (nth p) as ys := by
  intro as
  induction as with
  | nil => intro ys qs h1 h2; cases ys with
    | nil => cases qs with
      | nil => rfl
      | cons => simp at h2
    | cons => simp at h1
  | cons a as ih =>
    intro ys qs h1 h2
    cases ys with
    | nil => simp at h1
    | cons y ys =>
      cases qs with
      | nil => simp at h2
      | cons q qs =>
        simp only [rdot, dot, lift, rst, ih ys qs (by simpa using h1) (by simpa using h2), Int.add_mul, Int.sub_mul]
        omega
theorem sm_mul_one (f : Nat → Int) (d y : Int) (n : Nat) : sm (fun v => f v * (if d = (v : Int) then y else 0)) n = if 0 ≤ d ∧ d < n then f d.toNat * y else 0 := by
  induction n with
  | zero => simp only [sm]; rw [if_neg (by omega)]
  | succ n ih =>
    simp only [sm, ih]
    by_cases e : d = (n : Int)
    · have e1 : d.toNat = n := by omega
      rw [if_neg (by omega), if_pos e, if_pos (by omega), e1, Int.zero_add]
    · rw [if_neg e, Int.mul_zero, Int.add_zero]
      by_cases h1 : 0 ≤ d ∧ d < n
      · rw [if_pos h1, if_pos (by omega)]
      · rw [if_neg h1, if_neg (by omega)]
theorem sm_lift {N : Int} (f : Nat → Int) : ∀ (as : List Arc) (ys : List Int), (∀ a ∈ as, okArc N a = true) → sm (fun v => f v * ex as ys v) N.toNat = lift f as ys := by
  intro as
  induction as with
  | nil =>
    intro ys _
    simp only [ex, lift, Int.mul_zero, sm_zero]
  | cons a as ih =>
    intro ys h
    cases ys with
    | nil => simp only [ex, lift, Int.mul_zero, sm_zero]
    | cons y ys =>
      have hok := okArc_iff.1 (h a (List.mem_cons_self ..))
      have h1 := ih ys fun b hb => h b (List.mem_cons_of_mem _ hb)
      have h2 := sm_mul_one f a.dst y N.toNat
      have h3 := sm_mul_one f a.src y N.toNat
      rw [if_pos (by omega)] at h2 h3
      simp only [lift, ← h1, ← h2, ← h3]
      rw [← sm_sub, ← sm_add]
      apply sm_congr
      intro v _
      simp only [ex, Int.mul_add, Int.mul_sub]
theorem lift_circ {N : Int} {arcs : List Arc} {x : List Int} (hV : Valid N arcs) (h : Circ arcs x) (f : Nat → Int) : lift f arcs x = 0 := by
  rw [← sm_lift (N := N) f arcs x hV.ok, sm_congr (g := fun _ => 0) (fun v _ => by rw [h.zero, Int.mul_zero]), sm_zero]
theorem dot_rdot {N : Int} {arcs : List Arc} {x wl : List Int} (hV : Valid N arcs) (h : Circ arcs x) (hw : wl.length = arcs.length) (p : List Int) : dot wl x = rdot p arcs x wl := by
  rw [rdot_eq arcs x wl h.bds.1.symm hw.symm, lift_circ hV h, Int.sub_zero]
theorem part_ge {p : List Int} {a : Arc} {y q : Int} (h : a.lo ≤ y ∧ y ≤ a.hi) : rst p a q * y ≤ part p a q := by
  unfold part
  split
  · exact Int.mul_le_mul_of_nonneg_left h.2 (by omega)
  · split
    · exact Int.mul_le_mul_of_nonpos_left (by omega) h.1
    · have : rst p a q = 0 := by omega
      rw [this, Int.zero_mul]; omega
theorem rdot_le {p : List Int} : ∀ (as : List Arc) (ys qs : List Int), (∀ (i : Nat) (a : Arc) (y : Int), as[i]? = some a → ys[i]? = some y → a.lo ≤ y ∧ y ≤ a.hi) → as.length = ys.length → rdot p as ys qs ≤ bnd p as qs := by
  intro as
  induction as with
  | nil => intro ys qs _ _; simp [rdot, bnd]
  | cons a as ih =>
    intro ys qs h hl
    cases ys with
    | nil => simp at hl
    | cons y ys =>
      cases qs with
      | nil => simp [rdot, bnd]
      | cons q qs =>
        have h1 := ih ys qs (fun i b z hb hz => h (i + 1) b z (by simpa using hb) (by simpa using hz)) (by simpa using hl)
        have h2 := part_ge (p := p) (q := q) (h 0 a y rfl rfl)
        simp only [rdot, bnd]; omega
/-- The sum of a circulation is at most the bound that any potentials show. -/
theorem dual {N : Int} {arcs : List Arc} {x wl : List Int} (hV : Valid N arcs) (h : Circ arcs x) (hw : wl.length = arcs.length) (p : List Int) : dot wl x ≤ bnd p arcs wl := by
  rw [dot_rdot hV h hw p]
  exact rdot_le arcs x wl h.bds.2 h.bds.1.symm

/-- Amounts at the ends that potentials show. -/
def Slack (p : List Int) (arcs : List Arc) (x wl : List Int) : Prop :=
  ∀ (i : Nat) (a : Arc) (y q : Int), arcs[i]? = some a → x[i]? = some y → wl[i]? = some q → (0 < rst p a q → y = a.hi) ∧ (rst p a q < 0 → y = a.lo)
theorem rdot_slack {p : List Int} : ∀ (as : List Arc) (ys qs : List Int), Slack p as ys qs → as.length = ys.length → rdot p as ys qs = bnd p as qs := by
  intro as
  induction as with
  | nil => intro ys qs _ _; simp [rdot, bnd]
  | cons a as ih =>
    intro ys qs h hl
    cases ys with
    | nil => simp at hl
    | cons y ys =>
      cases qs with
      | nil => simp [rdot, bnd]
      | cons q qs =>
        have h1 := ih ys qs (fun i b z r hb hz hr => h (i + 1) b z r (by simpa using hb) (by simpa using hz) (by simpa using hr)) (by simpa using hl)
        have h2 := h 0 a y q rfl rfl rfl
        have h3 : rst p a q * y = part p a q := by
          unfold part
          split
          · rename_i hc; rw [h2.1 hc]
          · split
            · rename_i hc; rw [h2.2 hc]
            · have : rst p a q = 0 := by omega
              rw [this, Int.zero_mul]
        simp only [rdot, bnd, h1, h3]
/-- A circulation at the ends that potentials show has the sum that they bound. -/
theorem slack_eq {N : Int} {arcs : List Arc} {x wl p : List Int} (hV : Valid N arcs) (h : Circ arcs x) (hw : wl.length = arcs.length) (hs : Slack p arcs x wl) : dot wl x = bnd p arcs wl := by
  rw [dot_rdot hV h hw p]
  exact rdot_slack arcs x wl hs h.bds.1.symm

/-! ### the search for potentials -/

abbrev P0 : Nat → Int := fun _ => 0
theorem carp_splice {N : Int} {va vx vw : Value} {m p f : Nat → Int} : splice (carC N va vx vw m p) 1004 (tab 1000 f) = carC N va vx vw m f := by
  have h1 := carp_len (N := N) (va := va) (vx := vx) (vw := vw) (m := m)
  rw [carp_eq, carp_eq, splice, List.append_nil, List.append_nil, tab_length]
  rw [List.take_append_of_le_length (by omega), List.take_of_length_le (by omega), List.drop_eq_nil_of_le (by rw [List.length_append, tab_length]; omega), List.append_nil]
/-- Costs of nodes, while they are made smaller. -/
structure Sh (p c : Nat → Int) : Prop where
  nn : ∀ v, 0 ≤ p v
  lo : ∀ v, p v - 1000000 ≤ c v
  hi : ∀ v, c v ≤ 0
/-- No step among these makes a cost smaller. -/
def Still (t : List Stp) (c : Nat → Int) : Prop := ∀ s, s ∈ t → c s.dst.toNat ≤ c s.src.toNat + s.cost
def low (c : Nat → Int) : Nat := ((List.range 1000).map fun v => (c v + 1000000).toNat).sum
section
variable {N : Int} {arcs : List Arc} {wl x : List Int} {mo p c : Nat → Int}

theorem Sh.start (hp : ∀ v, 0 ≤ p v ∧ p v ≤ 1000000) : Sh p fun _ => 0 := ⟨fun v => (hp v).1, fun v => by have := hp v; omega, fun v => Int.le_refl _⟩

theorem step0 (hr : ∀ s, s ∈ stps p 0 arcs x wl → 0 ≤ s.cost) (hw : Wts arcs wl) {s : Stp} (hs : s ∈ stps P0 0 arcs x wl) : p s.dst.toNat - p s.src.toNat ≤ s.cost ∧ -1000 ≤ s.cost ∧ s.cost ≤ 1000 := by
  obtain ⟨d, hd1, hd2, hd⟩ := step_cost hw hs
  obtain ⟨c', h1, h2, _⟩ := hd p
  obtain ⟨c0, _, h4, h5⟩ := hd P0
  have := hr _ h1
  have := h5 rfl
  simp only [P0] at h4
  simp only at *
  omega

theorem Sh.relax (h : Sh p c) (hr : ∀ s, s ∈ stps p 0 arcs x wl → 0 ≤ s.cost) (hw : Wts arcs wl) (hV : Valid N arcs) {s : Stp} (hs : s ∈ stps P0 0 arcs x wl) (hlt : c s.src.toNat + s.cost < c s.dst.toNat) :
    Sh p (upf c s.dst.toNat (c s.src.toNat + s.cost)) ∧ low (upf c s.dst.toNat (c s.src.toNat + s.cost)) < low c := by
  have h1 := step0 hr hw hs
  have h2 := h.lo s.src.toNat
  have h3 := h.hi s.dst.toNat
  have hok := stps_ok hV hs
  have hpd := h.lo s.dst.toNat
  have hpn := h.nn s.dst.toNat
  refine ⟨⟨h.nn, fun v => ?_, fun v => ?_⟩, ?_⟩
  · unfold upf; split
    · rename_i e; subst e; omega
    · exact h.lo v
  · unfold upf; split
    · omega
    · exact h.hi v
  · unfold low
    refine sum_lt (u := s.dst.toNat) (fun v => ?_) (List.mem_range.2 (by have := hV.max; omega)) ?_
    · unfold upf; split
      · rename_i e; subst e; omega
      · exact Nat.le_refl _
    · simp only [upf, if_true]
      omega

/-- What a round over steps has done. -/
def Rd1 (p c : Nat → Int) (t : List Stp) (c' : Nat → Int) (m : Bool) : Prop := Sh p c' ∧ (m = false → c' = c ∧ Still t c) ∧ (m = true → low c' < low c)
def mu (c : Nat → Int) (m : Bool) : Nat := bif m then low c + 1 else 0
theorem Rd1.start (h : Sh p c) : Rd1 p c [] c false := ⟨h, fun _ => ⟨rfl, fun _ h => by cases h⟩, fun h => by cases h⟩
theorem Rd1.keep {c' : Nat → Int} {m : Bool} {t : List Stp} {s : Stp} (h : Rd1 p c t c' m) (hn : ¬ c' s.src.toNat + s.cost < c' s.dst.toNat) : Rd1 p c (t ++ [s]) c' m := by
  refine ⟨h.1, fun hm => ⟨(h.2.1 hm).1, fun u hu => ?_⟩, h.2.2⟩
  rcases List.mem_append.1 hu with hu | hu
  · exact (h.2.1 hm).2 u hu
  · have : u = s := by simpa using hu
    subst this
    rw [(h.2.1 hm).1] at hn
    omega
theorem Rd1.relax {c' : Nat → Int} {m : Bool} {t : List Stp} {s : Stp} (h : Rd1 p c t c' m) (hr : ∀ s, s ∈ stps p 0 arcs x wl → 0 ≤ s.cost) (hw : Wts arcs wl) (hV : Valid N arcs) (hs : s ∈ stps P0 0 arcs x wl) (hlt : c' s.src.toNat + s.cost < c' s.dst.toNat) :
    Rd1 p c (t ++ [s]) (upf c' s.dst.toNat (c' s.src.toNat + s.cost)) true := by
  obtain ⟨h1, h2⟩ := h.1.relax hr hw hV hs hlt
  refine ⟨h1, fun h => (by cases h), fun _ => ?_⟩
  cases m with
  | false => rw [(h.2.1 rfl).1] at h2 ⊢; exact h2
  | true => have := h.2.2 rfl; omega
theorem Rd1.less {c' : Nat → Int} {m : Bool} {t : List Stp} (h : Rd1 p c t c' m) : mu c' m < mu c true := by
  cases m with
  | false => simp [mu]
  | true => have := h.2.2 rfl; simp [mu]; exact this
theorem Rd1.still {c' : Nat → Int} {m : Bool} {t : List Stp} (h : Rd1 p c t c' m) (hm : m = false) : Still t c' := by rw [(h.2.1 hm).1]; exact (h.2.1 hm).2

/-- The potentials that costs give. -/
def outp (N : Int) (c : Nat → Int) : List Int := (List.range N.toNat).map fun v => -(c v)
theorem outp_len (N : Int) (c : Nat → Int) : (outp N c).length = N.toNat := by simp [outp]
theorem outp_get {N : Int} {c : Nat → Int} {v : Nat} (h : v < N.toNat) : (outp N c)[v]? = some (-(c v)) := by simp [outp, h]
theorem Sh.pts (h : Sh p c) (hN : 1 ≤ N) : Pts N (outp N c) := by
  refine ⟨by rw [outp_len]; omega, fun y hy => ?_⟩
  simp only [outp, List.mem_map, List.mem_range] at hy
  obtain ⟨v, _, rfl⟩ := hy
  have h1 := h.lo v
  have h2 := h.hi v
  have h3 := h.nn v
  omega
theorem Still.slack (hV : Valid N arcs) (hb : Bds arcs x) (hs : Still (stps P0 0 arcs x wl) c) : Slack (outp N c) arcs x wl := by
  intro i a y q ha hy hq
  have hok := hV.at ha
  have h1 : nth (outp N c) a.src.toNat = -(c a.src.toNat) := nth_of (outp_get (by omega))
  have h2 : nth (outp N c) a.dst.toNat = -(c a.dst.toNat) := nth_of (outp_get (by omega))
  have h3 := hb.2 i a y ha hy
  unfold rst
  rw [h1, h2]
  refine ⟨fun hp => ?_, fun hp => ?_⟩
  · apply Classical.byContradiction
    intro hne
    have h4 := hs _ (mem_stps_of (p := P0) ha hy hq (mem_stp1.2 (.inl ⟨by omega, rfl⟩)))
    simp only [fwd, cst, P0] at h4
    omega
  · apply Classical.byContradiction
    intro hne
    have h4 := hs _ (mem_stps_of (p := P0) ha hy hq (mem_stp1.2 (.inr ⟨by omega, rfl⟩)))
    simp only [bwd, cst, P0] at h4
    omega
end

/-- A circulation with the greatest sum, and potentials that show it. -/
structure Opt (N : Int) (arcs : List Arc) (wl x q : List Int) : Prop where
  circ : Circ arcs x
  pts : Pts N q
  slack : Slack q arcs x wl
theorem Opt.eq {N : Int} {arcs : List Arc} {wl x q : List Int} (h : Opt N arcs wl x q) (hV : Valid N arcs) (hw : wl.length = arcs.length) : dot wl x = bnd q arcs wl := slack_eq hV h.circ hw h.slack
theorem Opt.max {N : Int} {arcs : List Arc} {wl x q y : List Int} (h : Opt N arcs wl x q) (hV : Valid N arcs) (hw : wl.length = arcs.length) (hy : Circ arcs y) : dot wl y ≤ dot wl x := by
  rw [h.eq hV hw]; exact dual hV hy hw q
/-- Equal sums, so the other circulation lies at the same ends. -/
theorem slack_of {p : List Int} : ∀ (as : List Arc) (ys qs : List Int), (∀ (i : Nat) (a : Arc) (y : Int), as[i]? = some a → ys[i]? = some y → a.lo ≤ y ∧ y ≤ a.hi) → as.length = ys.length → bnd p as qs ≤ rdot p as ys qs → Slack p as ys qs := by
  intro as
  induction as with
  | nil => intro ys qs _ _ _ i a y q ha; simp at ha
  | cons a as ih =>
    intro ys qs h hl hle
    cases ys with
    | nil => simp at hl
    | cons y ys =>
      cases qs with
      | nil => intro i b z r _ _ hr; simp at hr
      | cons q qs =>
        have h0 := fun (i : Nat) (b : Arc) (z : Int) hb hz => h (i + 1) b z (by simpa using hb) (by simpa using hz)
        have h1 := rdot_le (p := p) as ys qs h0 (by simpa using hl)
        have h2 := part_ge (p := p) (q := q) (h 0 a y rfl rfl)
        have h5 := h 0 a y rfl rfl
        simp only [rdot, bnd] at hle
        have h3 := ih ys qs h0 (by simpa using hl) (by omega)
        intro i b z r hb hz hr
        cases i with
        | zero =>
          simp at hb hz hr
          subst hb; subst hz; subst hr
          have h4 : part p a q ≤ rst p a q * y := by omega
          refine ⟨fun hp => ?_, fun hp => ?_⟩
          · rw [part_pos hp] at h4
            have := Int.le_of_mul_le_mul_left h4 hp
            omega
          · rw [part_neg hp] at h4
            apply Classical.byContradiction
            intro hne
            have h6 : a.lo < y := by omega
            have h7 := Int.mul_lt_mul_of_neg_left h6 hp
            omega
        | succ i => exact h3 i b z r (by simpa using hb) (by simpa using hz) (by simpa using hr)
theorem Opt.other {N : Int} {arcs : List Arc} {wl x q y : List Int} (h : Opt N arcs wl x q) (hV : Valid N arcs) (hw : wl.length = arcs.length) (hy : Circ arcs y) (he : dot wl x ≤ dot wl y) : Slack q arcs y wl := by
  refine slack_of arcs y wl hy.bds.2 hy.bds.1.symm ?_
  rw [← dot_rdot hV hy hw, ← h.eq hV hw]; exact he

/-! ### one arc -/

/-- Weights in which one arc alone has one. -/
def unit (n : Nat) (i : Nat) (k : Int) : List Int := (List.replicate n 0).set i k
theorem unit_length (n i : Nat) (k : Int) : (unit n i k).length = n := by simp [unit]
theorem dot_zero : ∀ (n : Nat) (x : List Int), dot (List.replicate n 0) x = 0 := by
  intro n
  induction n with
  | zero => intro x; simp [dot]
  | succ n ih =>
    intro x
    cases x with
    | nil => simp [List.replicate_succ, dot]
    | cons y x => simp [List.replicate_succ, dot, ih]
theorem dot_unit {k y : Int} : ∀ (n i : Nat) (x : List Int), i < n → x[i]? = some y → dot (unit n i k) x = k * y := by
  intro n
  induction n with
  | zero => intro i x h; omega
  | succ n ih =>
    intro i x h hx
    cases x with
    | nil => simp at hx
    | cons z x =>
      cases i with
      | zero => simp at hx; subst hx; simp [unit, List.replicate_succ, dot, dot_zero]
      | succ i =>
        have := ih i x (by omega) (by simpa using hx)
        simp only [unit, List.replicate_succ, List.set_cons_succ, dot] at this ⊢
        rw [this]; omega
theorem unit_wts {arcs : List Arc} {i : Nat} {k : Int} (h : -1000 ≤ k ∧ k ≤ 1000) : Wts arcs (unit arcs.length i k) := by
  refine ⟨unit_length .., fun y hy => ?_⟩
  rcases List.mem_or_eq_of_mem_set hy with h1 | h1
  · have := List.eq_of_mem_replicate h1; omega
  · omega
end Go.Vk.Flow

/- The proof engine, part 15: ranges over functions within loops: marks that pile up among the deferred calls. Generic over the program. -/
namespace Go.Vk
open Go

section
variable {P : Program} {b : Frame} {cs : List Frame} {fin : Machine → Prop} {n : Nat} {k : List Item} {ρ : Env} {ds : List Deferred} {w : World}

/-- A loop whose rounds defer calls. -/
theorem r_loopD {G : Type} (μ : G → Nat) (slots : G → List (Nat × Value)) (I : G → World → Prop) (dd : G → List Deferred) {c : Code} (g : G) (ha : Agree ρ (slots g)) (hI : I g w) (hd : ds = dd g)
    (round : ∀ g ρ w, I g w → (∀ g' ρ' w' ds', μ g' < μ g → Agree ρ' (slots g') → I g' w' → ds' = dd g' → Run P b cs fin n (.inLoop c :: k) ρ' ds' w') →
      Run P b cs fin n (.code c :: .inLoop c :: k) (upds ρ (slots g)) (dd g) w) :
    Run P b cs fin n (.code (.loop c) :: k) ρ ds w := by
  subst hd
  have key : ∀ N g ρ w, μ g = N → Agree ρ (slots g) → I g w → Run P b cs fin n (.inLoop c :: k) ρ (dd g) w := by
    intro N
    induction N using Nat.strongRecOn with
    | _ N ih =>
      intro g ρ w hN ha hI
      refine r_inLoop0 ?_
      have := round g ρ w hI fun g' ρ' w' ds' hlt ha' hI' hd' => by subst hd'; exact ih _ (hN ▸ hlt) g' ρ' w' rfl ha' hI'
      rwa [upds_agree ha] at this
  have h := key _ g ρ w rfl ha hI
  refine r_loop0 ?_
  obtain ⟨m, hs, hf⟩ := h
  obtain ⟨j, hj⟩ := hs
  cases j with
  | zero =>
    have := round g ρ w hI fun g' ρ' w' ds' _ ha' hI' hd' => by subst hd'; exact key _ g' ρ' w' rfl ha' hI'
    rwa [upds_agree ha] at this
  | succ j =>
    have := round g ρ w hI fun g' ρ' w' ds' _ ha' hI' hd' => by subst hd'; exact key _ g' ρ' w' rfl ha' hI'
    rwa [upds_agree ha] at this
end

/-- Marks that are owned. -/
def marksR (Ds : List Nat) : Rsc := pack (Ds.map fun D => obj D (.deferred (some [])))

section
variable {X : Nat → Prop} {w0 w : World} {A M : List Rsc} {r : Rsc} {D : Nat} {Ds : List Nat}

theorem Own.nopack (S : Own X w0 w A) : Own X w0 w (A ++ [marksR []]) := by
  refine S.add (Le.refl w) ⟨⟨fun r hr => (by cases hr), fun j k r s hr => (by simp at hr)⟩, fun b hb => ?_⟩
  obtain ⟨r, hr, _⟩ := hb
  cases hr
/-- One mark more. -/
theorem Own.mcons (S : Own X w0 w (A ++ [Vk.obj D (.deferred (some [])), marksR Ds])) : Own X w0 w (A ++ [marksR (D :: Ds)]) := by
  have S1 : Own X w0 w ((A ++ [Vk.obj D (.deferred (some []))]) ++ [Vk.pack (Ds.map fun D => Vk.obj D (.deferred (some [])))]) := by rw [List.append_assoc]; exact S
  have S2 := S1.unpack
  rw [List.append_assoc] at S2
  exact S2.pack (A := A)
theorem Own.drop1 (S : Own X w0 w (A ++ r :: M)) : Own X w0 w (A ++ M) := by
  refine S.perm ((List.range (A.length + M.length)).map fun k => if k < A.length then k else k + 1) ?_ fun k s hs => ?_
  · refine List.Pairwise.map _ (fun a b h => ?_) List.nodup_range
    intro e
    split at e <;> split at e <;> omega
  · have hk : k < A.length + M.length := by have := (List.getElem?_eq_some_iff.1 hs).1; simpa using this
    refine ⟨if k < A.length then k else k + 1, by simp [hk], ?_⟩
    split
    · rename_i h; rw [List.getElem?_append_left h] at hs ⊢; exact hs
    · rename_i h
      rw [List.getElem?_append_right (by omega)] at hs ⊢
      have e : k + 1 - A.length = (k - A.length) + 1 := by omega
      rw [e, List.getElem?_cons_succ]; exact hs
end

section
variable {P : Program} {b : Frame} {cs : List Frame} {fin : Machine → Prop} {n : Nat} {k : List Item} {ρ : Env} {ds : List Deferred} {X : Nat → Prop} {w0 : World} {A : List Rsc}

/-- The way out, through all marks. -/
theorem leave_marks : ∀ (Ds : List Nat) {w : World}, Own X w0 w (A ++ [marksR Ds]) → (∀ w', Own X w0 w' A → Leave P b cs fin n k ρ ds w') → Leave P b cs fin n k ρ (Ds.map mark ++ ds) w := by
  intro Ds
  induction Ds with
  | nil => intro w S h; exact h w (by have := S.take A.length; rwa [List.take_left] at this)
  | cons D Ds ih =>
    intro w S h
    have S1 : Own X w0 w (A ++ (obj D (.deferred (some [])) :: Ds.map fun D => obj D (.deferred (some [])))) := Own.unpack (A := A) S
    refine leave_mark S1 A.length (by simp) fun w' S2 _ => ?_
    rw [List.set_append_right _ _ (Nat.le_refl _), Nat.sub_self, List.set_cons_zero] at S2
    exact ih (Own.pack (A := A) (S2.drop1)) h
end
end Go.Vk

/- The proof engine, part 15: regions that draw their order, in which operations change memory. Generic over the program. -/
namespace Go.Vk
open Go

section
variable {P : Program} {b : Frame} {cs : List Frame} {fin : Machine → Prop} {n : Nat} {k : List Item} {ρ : Env} {ds : List Deferred} {w w' : World} {ops : Array Oper} {m : Nat} {G : World → World → Prop}

/-- Whatever order is picked from here on; each step goes by G. -/
def AnyE (P : Program) (n : Nat) (ops : Array Oper) (m : Nat) (G : World → World → Prop) (K : Env → World → Prop) : Nat → Array Bool → Env → World → Prop
  | 0, listed, ρ, w => ((∀ i, i < m → listed.getD i true = true) → K ρ w) ∧ ∀ (i : Nat), i < m → rdy ops listed i = false
  | f + 1, listed, ρ, w => ((∀ i, i < m → listed.getD i true = true) → K ρ w) ∧ ∀ (i : Nat) (o : Oper), i < m → ops[i]? = some o → rdy ops listed i = true →
      Sp P ops n ρ o w fun v w2 => G w w2 ∧ AnyE P n ops m G K f (listed.setIfInBounds i true) (updO o.dst v ρ) w2

/-- It yields v and leaves the world as it is, whatever has come by G. -/
def Exact (P : Program) (ops : Array Oper) (n : Nat) (G : World → World → Prop) (ρ : Env) (o : Oper) (w : World) (v : Value) : Prop := ∀ w1, G w w1 → Sp P ops n ρ o w1 fun u w2 => u = v ∧ w2 = w1

theorem AnyE.first {K : Env → World → Prop} {i : Nat} {oi : Oper} {v : Value} (hr0 : ∀ w, G w w) (htr : ∀ {u v w}, G u v → G v w → G u w) (hok : DrawOk ops m) (hi : ops[i]? = some oi) (him : i < m) :
    ∀ (f : Nat) (listed : Array Bool) (ρ : Env) (w : World), rdy ops listed i = true → Exact P ops n G ρ oi w v →
      AnyE P n ops m G K f (listed.setIfInBounds i true) (updO oi.dst v ρ) w → AnyE P n ops m G K (f + 1) listed ρ w := by
  intro f
  induction f with
  | zero =>
    intro listed ρ w hr hy H
    refine ⟨fun hl => ?_, fun j oj hjm hj hrj => ?_⟩
    · have := (rdy_spec hr).1; rw [hl i him] at this; cases this
    · by_cases e : j = i
      · subst e
        have : oj = oi := Option.some.inj (hj.symm.trans hi)
        subst this
        exact (hy w (hr0 w)).mono fun u w2 ⟨hu, h2⟩ => by subst hu; subst h2; exact ⟨hr0 _, H⟩
      · have := H.2 j hjm
        rw [rdy_other e hrj] at this
        cases this
  | succ f ih =>
    intro listed ρ w hr hy H
    refine ⟨fun hl => ?_, fun j oj hjm hj hrj => ?_⟩
    · have := (rdy_spec hr).1; rw [hl i him] at this; cases this
    · by_cases e : j = i
      · subst e
        have : oj = oi := Option.some.inj (hj.symm.trans hi)
        subst this
        exact (hy w (hr0 w)).mono fun u w2 ⟨hu, h2⟩ => by subst hu; subst h2; exact ⟨hr0 _, H⟩
      · have h2 := H.2 j oj hjm hj (rdy_other e hrj)
        have hap : apartB ops oi oj = true := by
          rcases hok.apart i j oi oj him hjm (Ne.symm e) hi hj with h | h | h
          · obtain ⟨_, o', ho', hw'⟩ := rdy_spec hrj
            have : o' = oj := Option.some.inj (ho'.symm.trans hj)
            subst this
            have := hw' i h
            rw [getD_both (rdy_spec hr).1] at this; cases this
          · obtain ⟨_, o', ho', hw'⟩ := rdy_spec hr
            have : o' = oi := Option.some.inj (ho'.symm.trans hi)
            subst this
            have := hw' j h
            rw [getD_both (rdy_spec hrj).1] at this; cases this
          · exact h
        obtain ⟨a1, a2, a3⟩ := apartB_spec hap
        rw [Sp.congr (not_sel (hok.sel j oj hj)) a1] at h2
        refine h2.mono fun u w2 ⟨h3, h4⟩ => ⟨h3, ?_⟩
        refine ih (listed.setIfInBounds j true) (updO oj.dst u ρ) w2 (rdy_other (Ne.symm e) hr) (fun w3 h5 => ?_) ?_
        · rw [Sp.congr (not_sel (hok.sel i oi hi)) a3]
          exact hy w3 (htr h3 h5)
        · rw [Array.setIfInBounds_comm _ _ e, ← updO_comm ρ v u a2]
          exact h4

/-- The state in the midst of a region: which operations have come. -/
def RE (P : Program) (b : Frame) (cs : List Frame) (fin : Machine → Prop) (n : Nat) (ops : Array Oper) (m : Nat) (G : World → World → Prop) (k : List Item) (ds : List Deferred) (listed : Array Bool) (ρ : Env) (w : World) : Prop :=
  ∃ f, AnyE P n ops m G (fun ρ w => RunL P b cs fin n ops (ops.toList.drop m) k ρ ds w) f listed ρ w

/-- **A region that draws its order, and changes memory.** The blocks of Y may be changed on the way. -/
theorem r_drawE {id : Nat} (m : Nat) (Y : Nat → Prop) (hmo : P.follows .mixedOrders = true) (hok : drawOk ops m = true)
    (h : ∀ w1, Le w w1 → RE P b cs fin n ops m (Keep Y) k ds (Array.replicate ops.size false) ρ w1) :
    Run P b cs fin n (.code (.region id ops true) :: k) ρ ds w := by
  refine Run.of_step stepR_region_draw ?_
  have hok := drawOk_spec hok
  obtain ⟨f, hf⟩ := h { w with drawn := w.drawn + 1 } (Le.drew w)
  have := any_run' (P := P) (n := n) (b := b) (cs := cs) (fin := fin) (k := k) (ds := ds) hok (A := AnyE P n ops m (Keep Y) fun ρ w => RunL P b cs fin n ops (ops.toList.drop m) k ρ ds w)
    (fun f listed ρ w h hl => by cases f with
      | zero => exact h.1 hl
      | succ f => exact h.1 hl)
    (fun f listed ρ w i o h hi ho hr => by cases f with
      | zero => have := h.2 i hi; rw [hr] at this; cases this
      | succ f => exact ⟨f, (h.2 i o hi ho hr).mono fun _ _ h => h.2⟩)
    (fun _ _ h => h) ops.size f (w.tape w.drawn (.order b.fn id)) (Array.replicate ops.size false) ρ { w with drawn := w.drawn + 1 } hf
    ⟨by simp, fun j o ho hj => by
      have : j < ops.size := (Array.getElem?_eq_some_iff.1 ho).1
      simp [this] at hj⟩ (fun i _ hi => by simp [hi]) (by omega)
  simp only [Region.schedule, hmo, Bool.true_or, if_true, Region.linearise]
  exact this

variable {Y : Nat → Prop} {listed listed' : Array Bool}

/-- A quiet operation, of those that are ready, is taken first. -/
theorem e_exact {v : Value} (i : Nat) (o : Oper) (hok : drawOk ops m = true) (ho : ops[i]? = some o) (him : Nat.blt i m = true) (hr : rdy ops listed i = true) (hl : listed.setIfInBounds i true = listed')
    (hx : Exact P ops n (Keep Y) ρ o w v) (h : RE P b cs fin n ops m (Keep Y) k ds listed' (updO o.dst v ρ) w) : RE P b cs fin n ops m (Keep Y) k ds listed ρ w := by
  subst hl
  obtain ⟨f, hf⟩ := h
  exact ⟨f + 1, AnyE.first (fun w => Keep.refl Y w) (fun h h' => h.trans h') (drawOk_spec hok) ho (by simpa using him) f listed ρ w hr hx hf⟩

/-- All have come. -/
theorem e_done (hr : ((List.range m).all fun i => !rdy ops listed i) = true) (h : RunL P b cs fin n ops (ops.toList.drop m) k ρ ds w) : RE P b cs fin n ops m G k ds listed ρ w := by
  refine ⟨0, fun _ => h, fun i hi => ?_⟩
  have := List.all_eq_true.1 hr i (List.mem_range.2 hi)
  simpa using this

theorem filter_lt {α : Type} {p q : α → Bool} {x : α} : ∀ {l : List α}, x ∈ l → (∀ y, q y = true → p y = true) → p x = true → q x = false → (l.filter q).length + 1 ≤ (l.filter p).length := by
  intro l
  induction l with
  | nil => intro h; cases h
  | cons y l ih =>
    intro hx hpq hp hq
    have hle : (l.filter q).length ≤ (l.filter p).length := by
      clear ih hx
      induction l with
      | nil => simp
      | cons z l ih =>
        by_cases hz : q z = true
        · simp [hz, hpq z hz, ih]
        · by_cases hz' : p z = true
          · simp [hz, hz']; omega
          · simp [hz, hz', ih]
    by_cases e : x = y
    · subst e; simp [hp, hq]; exact hle
    · have hx' : x ∈ l := by rcases List.mem_cons.1 hx with h | h; exact absurd h e; exact h
      have := ih hx' hpq hp hq
      by_cases hz : q y = true
      · simp [hz, hpq y hz]; exact this
      · by_cases hz' : p y = true
        · simp [hz, hz']; omega
        · simp [hz, hz']; exact this

/-- How many are still to come. -/
def left (m : Nat) (listed : Array Bool) : Nat := ((List.range m).filter fun i => !listed.getD i true).length
theorem left_le (m : Nat) (listed : Array Bool) : left m listed ≤ m := by
  have := List.length_filter_le (fun i => !listed.getD i true) (List.range m); simpa [left] using this
theorem left_set {x : Nat} (hx : x < m) (hl : listed.getD x true = false) : left m (listed.setIfInBounds x true) + 1 ≤ left m listed := by
  refine filter_lt (x := x) (List.mem_range.2 hx) (fun y hy => ?_) (by simp [hl]) ?_
  · simp only [Bool.not_eq_true'] at hy ⊢
    cases h : listed.getD y true with
    | false => rfl
    | true => rw [getD_set_mono h] at hy; cases hy
  · have : x < listed.size := by
      rcases Nat.lt_or_ge x listed.size with h | h
      · exact h
      · simp [h] at hl
    simp [this]

theorem AnyE.trunc {K : Env → World → Prop} : ∀ (f F : Nat) (listed : Array Bool) (ρ : Env) (w : World), left m listed ≤ f → AnyE P n ops m G K F listed ρ w → AnyE P n ops m G K f listed ρ w := by
  intro f
  induction f with
  | zero =>
    intro F listed ρ w hl h
    refine ⟨?_, fun i hi => ?_⟩
    · cases F with
      | zero => exact h.1
      | succ F => exact h.1
    · cases hr : rdy ops listed i with
      | false => rfl
      | true =>
        have := left_set hi (rdy_spec hr).1
        omega
  | succ f ih =>
    intro F listed ρ w hl h
    refine ⟨?_, fun i o hi ho hr => ?_⟩
    · cases F with
      | zero => exact h.1
      | succ F => exact h.1
    · cases F with
      | zero => have := h.2 i hi; rw [hr] at this; cases this
      | succ F =>
        have hls := left_set hi (rdy_spec hr).1
        exact (h.2 i o hi ho hr).mono fun v w2 ⟨h1, h2⟩ => ⟨h1, ih F _ _ _ (by omega) h2⟩

def Each (Q : Nat → Prop) : List Nat → Prop
  | [] => True
  | i :: l => Q i ∧ Each Q l
theorem Each.mem {Q : Nat → Prop} : ∀ {l : List Nat} {i : Nat}, Each Q l → i ∈ l → Q i := by
  intro l
  induction l with
  | nil => intro i _ h; cases h
  | cons j l ih =>
    intro i h hi
    rcases List.mem_cons.1 hi with rfl | hi
    · exact h.1
    · exact ih h.2 hi

/-- What it takes that operation i comes next. -/
def Nx (P : Program) (b : Frame) (cs : List Frame) (fin : Machine → Prop) (n : Nat) (ops : Array Oper) (m : Nat) (Y : Nat → Prop) (k : List Item) (ds : List Deferred) (listed : Array Bool) (ρ : Env) (w : World) (i : Nat) : Prop :=
  ∃ o listed', ops[i]? = some o ∧ listed.setIfInBounds i true = listed' ∧ Sp P ops n ρ o w fun v w2 => Keep Y w w2 ∧ RE P b cs fin n ops m (Keep Y) k ds listed' (updO o.dst v ρ) w2

/-- Those that may come next. -/
theorem e_next (is : List Nat) (hl : ((List.range m).all fun i => listed.getD i true) = false) (hr : ((List.range m).all fun j => is.contains j || !rdy ops listed j) = true)
    (h : Each (Nx P b cs fin n ops m Y k ds listed ρ w) is) : RE P b cs fin n ops m (Keep Y) k ds listed ρ w := by
  refine ⟨m + 1, fun hall => ?_, fun i o hi ho hri => ?_⟩
  · rw [List.all_eq_true.2 fun i hi => hall i (List.mem_range.1 hi)] at hl; cases hl
  · have h1 := List.all_eq_true.1 hr i (List.mem_range.2 hi)
    rw [hri] at h1
    obtain ⟨o', listed', ho', hl', hs⟩ := h.mem (i := i) (by simpa using h1)
    have : o' = o := Option.some.inj (ho'.symm.trans ho)
    subst this
    subst hl'
    exact hs.mono fun v w2 ⟨h1, f, hf⟩ => ⟨h1, hf.trunc _ _ _ _ _ (left_le _ _)⟩
end

section
variable {P : Program} {n : Nat} {all : Array Oper} {ρ : Env} {w w' : World} {d : Nat} {op : Op} {ty : TypeId} {pos : String} {af : Array Edge} {g : Option (Nat × Bool)} {v : Value} {Y : Nat → Prop} {o : Oper} {Φ : Value → World → Prop}

/-- A quiet operation. -/
theorem ex_x (hg : gOk all n ρ g = true) (hx : ∀ w1, Keep Y w w1 → X P (ev n ρ) op ty w1 v w1) : Exact P all n (Keep Y) ρ ⟨some d, op, ty, pos, af, g⟩ w v := by
  intro w1 h1
  unfold Sp
  rw [if_pos hg]
  exact ⟨(hx w1 h1).1, .inl ⟨v, w1, (hx w1 h1).2 .., rfl, rfl⟩⟩
theorem ex_pass (hg : gOk all n ρ o.guard = false) : Exact P all n (Keep Y) ρ o w undef := by
  intro w1 h1
  unfold Sp
  rw [if_neg (by simp [hg])]
  exact ⟨rfl, rfl⟩
/-- An operation that yields a value and changes the world. -/
theorem s_x {d' : Option Nat} (hg : gOk all n ρ g = true) (hx : X P (ev n ρ) op ty w v w') (h : Φ v w') : Sp P all n ρ ⟨d', op, ty, pos, af, g⟩ w Φ := by
  unfold Sp
  rw [if_pos hg]
  exact ⟨hx.1, .inl ⟨v, w', hx.2 .., h⟩⟩
theorem s_pass (hg : gOk all n ρ o.guard = false) (h : Φ undef w) : Sp P all n ρ o w Φ := by
  unfold Sp
  rw [if_neg (by simp [hg])]
  exact h
/-- A call. -/
theorem s_call (hg : gOk all n ρ o.guard = true) (hnd : ∀ c, o.op ≠ .defer c) {f : FuncId} {args : Array Value} (hr : (execOp (ev n ρ) o).run P w = .ok (.enter f args) w) (hc : Cl P f args w Φ) : Sp P all n ρ o w Φ := by
  unfold Sp
  rw [if_pos hg]
  exact ⟨hnd, .inr (.inl ⟨f, args, w, hr, hc⟩)⟩
end

section
variable {P : Program} {n : Nat} {all : Array Oper} {ρ : Env} {w w' : World} {d : Nat} {ty : TypeId} {pos : String} {af : Array Edge} {g : Option (Nat × Bool)} {v : Value} {T : TypeId} {x y : Operand} {Φ : Value → World → Prop}
  {X : Nat → Prop} {w0 : World} {L : List Rsc} {α : Type} {E : Elt α}
theorem s_buildSlice (E : Elt α) {len : Nat} {parts : List (Nat × Operand)} (as : List α) {z : Value} (S : Own X w0 w L) (hg : gOk all n ρ g = true) (hu : ∀ w, (underlying T).run P w = .ok (.slice E.T) w)
    (hs : ∀ w, (sizeOf E.T).run P w = .ok E.sz w) (hz : ∀ w, (zeroValue E.T).run P w = .ok z w) (hl : as.length = len) (hp : PartsOk (ev n ρ) E 0 parts as) (hsm : len * E.sz ≤ 16777216)
    (h : ∀ v w', Own X w0 w' (L ++ [vec E v as]) → Le w w' → Φ v w') :
    Sp P all n ρ ⟨some d, .buildSlice T len parts.toArray, ty, pos, af, g⟩ w Φ := by
  have hpos := E.pos
  have hlen : len ≤ maxLen := by
    have : len ≤ len * E.sz := Nat.le_mul_of_pos_right _ hpos
    simp only [maxLen]; omega
  subst hl
  refine s_x hg (v := .slice (some ⟨w.heap.size, 0, none⟩) as.length as.length) (w' := w.alloc (.cells (as.flatMap E.enc).toArray E.T (0, 0))) ⟨nofun, fun _ _ _ _ => ?_⟩
    (h _ _ (S.add (Le.alloc_cells _ _ _) (vec_new (Nat.le_refl _) hlen (flatMap_enc_length E as) (by rw [List.take_of_length_le]; rw [flatMap_enc_length]; exact Nat.le_refl _))) (Le.alloc_cells _ _ _))
  simp only [execOp, Instr.buildSlice, Sem.run_bind, hu, hs, Result.andThen_ok]
  rw [if_neg (by simpa using hsm)]
  have hfill : ∀ zz : Array Value, Instr.fill (fun i => some (i * E.sz, E.sz)) ((Array.range (as.length * E.sz)).map (zz[· % zz.size]!)) (parts.map fun p => (p.1, ev n ρ p.2)) = some (as.flatMap E.enc).toArray := by
    intro zz
    have := fill_parts (E := E) (ev := ev n ρ) parts as 0 [] ((Array.range (as.length * E.sz)).map (zz[· % zz.size]!)).toList hp (by simp) (by simp)
    simpa only [List.nil_append, Array.toArray_toList] using this
  simp only [List.map_toArray]
  by_cases h0 : as.length * E.sz = 0
  · rw [if_pos h0]
    simp only [Sem.run_bind, Sem.run_pure, Result.andThen_ok, hfill]
    rfl
  · rw [if_neg h0]
    simp only [Sem.run_bind, hz, Sem.run_pure, Result.andThen_ok, hfill]
    rfl

theorem s_make (E : Elt α) (a0 : α) {len cap : Nat} {ti : TypeInfo} {z : Value} (S : Own X w0 w L) (hg : gOk all n ρ g = true) (hu : ∀ w, (underlying T).run P w = .ok (.slice E.T) w)
    (hs : ∀ w, (sizeOf E.T).run P w = .ok E.sz w) (hti : ∀ w, (typeInfo E.T).run P w = .ok ti w) (hz : ∀ w, (zeroValue E.T).run P w = .ok z w) (hzc : z.cells = E.zero.toArray) (h0 : E.enc a0 = E.zero)
    (hx : ev n ρ x = .int .i64 len) (hy : ev n ρ y = .int .i64 cap) (hlc : len ≤ cap) (hm : cap ≤ maxLen) (hb : cap * ti.bytes ≤ 140737488355328)
    (h : ∀ v w', (∃ b, v = .slice (some ⟨b, 0, none⟩) len cap) → Own X w0 w' (L ++ [vec E v (List.replicate len a0)]) → Le w w' → Φ v w') :
    Sp P all n ρ ⟨some d, .makeSlice T x y, ty, pos, af, g⟩ w Φ := by
  have hpos := E.pos
  have hm' : cap ≤ 9223372036854775807 := by simp only [maxLen] at hm; omega
  have hvn := vec_new (w := w) (E := E) (c := (List.replicate cap E.zero).flatten) (l := List.replicate len a0) (cap := cap) (by simpa using hlc) hm (by simp [E.zlen]) (by
    rw [List.length_replicate, flatMap_replicate, h0]
    obtain ⟨e, rfl⟩ : ∃ e, cap = len + e := ⟨cap - len, by omega⟩
    rw [← List.replicate_append_replicate, List.flatten_append, List.take_append_of_le_length (by simp [E.zlen]), List.take_of_length_le (by simp [E.zlen])])
  rw [List.length_replicate] at hvn
  refine s_x hg (v := .slice (some ⟨w.heap.size, 0, none⟩) len cap) (w' := w.alloc (.cells (List.replicate cap E.zero).flatten.toArray E.T (0, 0))) ⟨nofun, fun _ _ _ _ => ?_⟩
    (h _ _ ⟨_, rfl⟩ (S.add (Le.alloc_cells _ _ _) hvn) (Le.alloc_cells _ _ _))
  have hw1 : IntKind.i64.wrap (len : Int) = len := IntWalk.i64_in _ (by omega)
  have hw2 : IntKind.i64.wrap (cap : Int) = cap := IntWalk.i64_in _ (by omega)
  have eb : ∀ m : Nat, (ti.bytes : Int) * (m : Int) = ((m * ti.bytes : Nat) : Int) := fun m => by rw [Int.natCast_mul, Int.mul_comm]
  have hlen : len * ti.bytes ≤ 140737488355328 := Nat.le_trans (Nat.mul_le_mul_right _ hlc) hb
  have hroom : ∀ w, (askRoom (cap * ti.bytes)).run P w = .ok () w := by
    intro w
    unfold askRoom roomBytes
    rw [if_neg (by omega)]
    rfl
  have hcells : ∀ zz : Array Value, (cap * E.sz = 0 ∨ zz = E.zero.toArray) → (Array.range (cap * E.sz)).map (fun i => zz[i % zz.size]!) = (List.replicate cap E.zero).flatten.toArray := by
    intro zz hz0
    by_cases hc : cap * E.sz = 0
    · have : cap = 0 := by
        rcases Nat.mul_eq_zero.1 hc with h | h
        · exact h
        · omega
      subst this
      simp
    · have hzz := hz0.resolve_left hc
      have := range_zero E.zero cap
      rw [← this, E.zlen, hzz]
      apply Array.ext'
      simp [E.zlen]
  have htl : ∀ m : Nat, m * ti.bytes ≤ 140737488355328 → (decide ((m : Int) < 0) || decide ((ti.bytes : Int) * (m : Int) > 2 ^ 48)) = false := by
    intro m hm
    rw [eb]
    have h1 : ¬ ((m : Int) < 0) := by omega
    have h2 : ¬ (((m * ti.bytes : Nat) : Int) > 2 ^ 48) := by
      rw [show (2 : Int) ^ 48 = 281474976710656 from rfl]; omega
    simp only [h1, h2, decide_false, Bool.or_false]
  simp only [execOp, Instr.makeSlice, Sem.run_bind, hu, Result.andThen_ok, hx, hy, asInt, asIntOf, Sem.run_pure, hti, hw1, hw2, htl cap hb, htl len hlen]
  have h3 : ¬ ((len : Int) < 0) := by omega
  have h4 : ¬ ((len : Int) > (cap : Int)) := by omega
  simp only [h3, h4, decide_false, Bool.or_false, Bool.false_eq_true, if_false, Int.toNat_natCast]
  by_cases h0 : cap * E.sz = 0
  · simp only [Sem.run_bind, hroom, Result.andThen_ok, hs]
    rw [if_pos h0]
    simp only [Sem.run_bind, Sem.run_pure, Result.andThen_ok, hcells _ (.inl h0)]
    rfl
  · simp only [Sem.run_bind, hroom, Result.andThen_ok, hs]
    rw [if_neg h0]
    simp only [Sem.run_bind, hz, hzc, Sem.run_pure, Result.andThen_ok, hcells _ (.inr rfl)]
    rfl


theorem s_append (E : Elt α) {i : TypeInfo} {z : Value} {xv : Value} {l xs : List α} (S : Own X w0 w L) (j : Nat) (hj : L[j]? = some (vec E v l)) (hg : gOk all n ρ g = true) (hx : ev n ρ x = v) (hy : ev n ρ y = xv) (hr : Rd E w xv xs)
    (ht : P.underlying T = some (.slice E.T)) (hi : P.info? E.T = some i) (hz : i.zero = some z) (hsz : i.size = E.sz) (hzc : z.cells.size = E.sz)
    (h63 : l.length + xs.length ≤ maxLen) (h47 : (l.length + xs.length) * i.bytes ≤ 140737488355328)
    (h : ∀ v' w', Own X w0 w' (L.set j (vec E v' (l ++ xs))) → Keep (vec E v l).fp w w' → (l ++ xs ≠ [] → ∃ b cap, v' = .slice (some ⟨b, 0, none⟩) (l.length + xs.length) cap) → Φ v' w') :
    Sp P all n ρ ⟨some d, .call ⟨.builtin .append, #[x, y], #[T, T]⟩, ty, pos, af, g⟩ w Φ := by
  obtain ⟨v', w', hrun, h1, h2, h3⟩ := run_append_vec (P := P) (ty := ty) S j hj hr ht hi hz hsz hzc h63 h47
  refine s_x hg ⟨nofun, fun _ _ _ _ => ?_⟩ (h v' w' h1 h2 h3)
  simp only [execOp, resolve, Sem.run_bind, Sem.run_pure, Result.andThen_ok, invoke, builtin, List.map_toArray, List.map_cons, List.map_nil, hx, hy, hrun]

theorem s_box {X : Nat → Prop} {w0 : World} {L : List Rsc} {c : List Value} (S : Own X w0 w L) (hg : gOk all n ρ g = true) (hx : (ev n ρ x).cells = c.toArray)
    (h : ∀ b' w', Own X w0 w' (L ++ [blk b' c T]) → Le w w' → Φ (.pointer (some ⟨b', 0, none⟩)) w') :
    Sp P all n ρ ⟨some d, .box T x, ty, pos, af, g⟩ w Φ := by
  refine s_x hg (v := .pointer (some ⟨w.heap.size, 0, none⟩)) (w' := w.alloc (.cells c.toArray T (0, 0))) ⟨nofun, fun _ _ _ _ => ?_⟩ (h _ _ (S.alloc c T) (Le.alloc_cells _ _ _))
  simp only [execOp, Instr.box, Sem.run_bind, run_newVar, Result.andThen_ok, Sem.run_pure, hx]

theorem s_alloc {X : Nat → Prop} {w0 : World} {L : List Rsc} {c : List Value} {z : Value} (S : Own X w0 w L) (hg : gOk all n ρ g = true) (hz : ∀ w, (zeroValue T).run P w = .ok z w) (hx : z.cells = c.toArray)
    (h : ∀ b' w', Own X w0 w' (L ++ [blk b' c T]) → Le w w' → Φ (.pointer (some ⟨b', 0, none⟩)) w') :
    Sp P all n ρ ⟨some d, .alloc T, ty, pos, af, g⟩ w Φ := by
  refine s_x hg (v := .pointer (some ⟨w.heap.size, 0, none⟩)) (w' := w.alloc (.cells c.toArray T (0, 0))) ⟨nofun, fun _ _ _ _ => ?_⟩ (h _ _ (S.alloc c T) (Le.alloc_cells _ _ _))
  simp only [execOp, Instr.alloc, Sem.run_bind, hz, run_newVar, Result.andThen_ok, Sem.run_pure, hx]

theorem s_callf {all : Array Oper} {d' : Option Nat} {F : Operand} {as : List Operand} {ts : Array TypeId} {f : FuncId} (first cap vals : List Value)
    (hg : gOk all n ρ g = true) (hF : ev n ρ F = .func (.func f) first.toArray cap.toArray) (he : ∀ args w, (callFunc f args).run P w = .ok (.enter f args) w) (ha : first ++ as.map (ev n ρ) ++ cap = vals)
    (hc : Cl P f vals.toArray w Φ) : Sp P all n ρ ⟨d', .call ⟨.value F, as.toArray, ts⟩, ty, pos, af, g⟩ w Φ := by
  subst ha
  refine s_call hg nofun ?_ hc
  exact run_call hF he rfl
end

section
variable {P : Program} {b : Frame} {cs : List Frame} {fin : Machine → Prop} {n : Nat} {k : List Item} {ρ : Env} {ds : List Deferred} {w w' : World} {ops : Array Oper} {m : Nat} {Y : Nat → Prop} {listed : Array Bool}
theorem e_split {d : Nat} {t : Bool} (hd : ρ d = .bool t) (ht : t = true → RE P b cs fin n ops m (Keep Y) k ds listed (upd ρ d (.bool true)) w) (hf : t = false → RE P b cs fin n ops m (Keep Y) k ds listed (upd ρ d (.bool false)) w) :
    RE P b cs fin n ops m (Keep Y) k ds listed ρ w := by
  cases t
  · have := hf rfl; rwa [upd_self hd] at this
  · have := ht rfl; rwa [upd_self hd] at this
theorem e_splitd {d : Nat} {p : Prop} [Decidable p] (hd : ρ d = .bool (decide p)) (ht : p → RE P b cs fin n ops m (Keep Y) k ds listed (upd ρ d (.bool true)) w) (hf : ¬ p → RE P b cs fin n ops m (Keep Y) k ds listed (upd ρ d (.bool false)) w) :
    RE P b cs fin n ops m (Keep Y) k ds listed ρ w := e_split hd (fun h => ht (of_decide_eq_true h)) (fun h => hf (of_decide_eq_false h))
/-- Behind these operations, in whatever order they came, only the named slots are known. -/
theorem e_cut {G : Type} (slots : G → List (Nat × Value)) (I : G → World → Prop)
    (hK : ∀ g ρ w, I g w → RunL P b cs fin n ops (ops.toList.drop m) k (upds ρ (slots g)) ds w)
    (h : (∀ g ρ w, Agree ρ (slots g) → I g w → RunL P b cs fin n ops (ops.toList.drop m) k ρ ds w) → RE P b cs fin n ops m (Keep Y) k ds listed ρ w) : RE P b cs fin n ops m (Keep Y) k ds listed ρ w :=
  h fun g ρ w ha hi => by have := hK g ρ w hi; rwa [upds_agree ha] at this

/-- A resource of which only the blocks are known. -/
def loose (r : Rsc) : Rsc := ⟨r.fp, fun _ => True, fun _ h => h⟩
theorem Own.under {X : Nat → Prop} {w0 w1 : World} {L : List Rsc} {r : Rsc} (S : Own X w0 w L) (j : Nat) (hj : L[j]? = some r) (h : Keep r.fp w w1) : Own X w0 w1 (L.set j (loose r)) :=
  S.turn j hj h (fun _ _ h => h) trivial fun _ h => .inl h
end

section
variable {P : Program} {b : Frame} {cs : List Frame} {fin : Machine → Prop} {n : Nat} {k : List Item} {ρ : Env} {ds : List Deferred} {w w' : World} {ops : Array Oper} {m : Nat} {Y : Nat → Prop} {listed listed' : Array Bool}
  {d : Nat} {ty : TypeId} {pos : String} {af : Array Edge} {g : Option (Nat × Bool)} {v : Value} {T : TypeId} {x y : Operand}
/-- The place of a slice's element. -/
theorem e_index {α : Type} (L : Elt α) {l : List α} {j : Int} {q : α} (i : Nat) (hok : drawOk ops m = true) (ho : ops[i]? = some ⟨some d, .indexAddr T x y, ty, pos, af, g⟩) (him : Nat.blt i m = true) (hr : rdy ops listed i = true)
    (hl : listed.setIfInBounds i true = listed') (hg : gOk ops n ρ g = true) (hrd : Rd L w v l) (hx : ev n ρ x = v) (hy : ev n ρ y = .int .i64 j)
    (hu : ∀ w, (underlying T).run P w = .ok (.slice L.T) w) (hs : ∀ w, (sizeOf L.T).run P w = .ok L.sz w) (hb : 0 ≤ j) (hi : l[j.toNat]? = some q)
    (h : ∀ b' o', At L v j.toNat ⟨b', o', none⟩ → RE P b cs fin n ops m (Keep Y) k ds listed' (upd ρ d (.pointer (some ⟨b', o', none⟩))) w) :
    RE P b cs fin n ops m (Keep Y) k ds listed ρ w := by
  obtain ⟨p, cap, rfl, hc, hrow⟩ := hrd
  obtain ⟨b', o', rfl, hrw⟩ := hrow j.toNat q hi
  have hlt : j.toNat < l.length := (List.getElem?_eq_some_iff.1 hi).1
  exact e_exact i _ hok ho him hr hl (ex_x hg fun w1 _ => x_indexAddr_slice hx hy hu hs ⟨hb, by omega⟩) (h b' (o' + j.toNat * L.sz) ⟨b', o', _, _, rfl, rfl⟩)
end
theorem rd_row {α : Type} {E : Elt α} {w : World} {v : Value} {l : List α} {i b' o' : Nat} {a : α} (h : Rd E w v l) (hat : At E v i ⟨b', o', none⟩) (ha : l[i]? = some a) : Row w b' o' (E.enc a) := by
  obtain ⟨p, cap, rfl, _, hrow⟩ := h
  obtain ⟨b1, o1, rfl, hr⟩ := hrow i a ha
  obtain ⟨b2, o2, len, cap2, hv, hq⟩ := hat
  simp only [Value.slice.injEq, Option.some.injEq, Addr.mk.injEq, and_true] at hv hq
  obtain ⟨⟨rfl, rfl⟩, _⟩ := hv
  obtain ⟨rfl, rfl⟩ := hq
  exact hr

section
variable {P : Program} {n : Nat} {all : Array Oper} {ρ : Env} {w w' : World} {ty : TypeId} {pos : String} {af : Array Edge} {g : Option (Nat × Bool)} {o : Oper} {Φ : Value → World → Prop}
theorem s_skip (hg : gOk all n ρ o.guard = true) (hnd : ∀ c, o.op ≠ .defer c) (hr : (execOp (ev n ρ) o).run P w = .ok .skip w') (h : Φ undef w') : Sp P all n ρ o w Φ := by
  unfold Sp
  rw [if_pos hg]
  exact ⟨hnd, .inr (.inr ⟨w', hr, h⟩)⟩
variable {T : TypeId} {x y : Operand} {X : Nat → Prop} {w0 : World} {L : List Rsc} {d' : Option Nat} {α : Type} {E : Elt α} {v : Value} {b' o f i : Nat} {l : List α} {a a' : α}
theorem s_stores {X : Nat → Prop} {w0 : World} {L : List Rsc} {b' o : Nat} {c vs c' : List Value} {T0 : TypeId} {d' : Option Nat} (S : Own X w0 w L) (j : Nat) (hj : L[j]? = some (blk b' c T0)) (hg : gOk all n ρ g = true)
    (hx : ev n ρ x = .pointer (some ⟨b', o, none⟩)) (hy : (ev n ρ y).cells = vs.toArray) (h1 : ∀ v ∈ vs, v.oneCell' = true) (hs : ∀ w, (sizeOf T).run P w = .ok vs.length w) (ho : o + vs.length ≤ c.length)
    (hc : splice c o vs = c')
    (h : ∀ w', Own X w0 w' (L.set j (blk b' c' T0)) → Keep (· = b') w w' → Φ undef w') :
    Sp P all n ρ ⟨d', .store T x y, ty, pos, af, g⟩ w Φ := by
  subst hc
  refine s_skip hg nofun (w' := w.setRow b' (splice c o vs).toArray) ?_ (h _ (S.setRow j hj _) (Keep.setRow w _))
  have hr := run_storeCells_at P b' o T0 vs 0 c.toArray w (S.blk j hj) (by simpa using ho) h1
  simp only [execOp, hx, Instr.storeAt, Instr.sureAddr, Sem.run_bind, Sem.run_pure, Result.andThen_ok, storeVar, hs]
  rw [hy]
  simp only [List.size_toArray, ne_eq, not_true_eq_false, if_false]
  rw [hr]
  simp only [Result.andThen_ok, Nat.add_zero]
  rfl

theorem s_storev {b' o f : Nat} {i : Nat} {l : List α} {a a' : α} {vs : List Value} (S : Own X w0 w L) (j : Nat) (hj : L[j]? = some (vec E v l)) (hg : gOk all n ρ g = true) (hat : At E v i ⟨b', o, none⟩)
    (hx : ev n ρ x = .pointer (some ⟨b', o + f, none⟩)) (hy : (ev n ρ y).cells = vs.toArray) (hs : ∀ w, (sizeOf T).run P w = .ok vs.length w) (h1 : ∀ u ∈ vs, u.oneCell' = true) (ha : l[i]? = some a) (hf : f + vs.length ≤ E.sz)
    (he : splice (E.enc a) f vs = E.enc a') (h : ∀ w', Own X w0 w' (L.set j (vec E v (l.set i a'))) → Keep (vec E v l).fp w w' → Φ undef w') :
    Sp P all n ρ ⟨d', .store T x y, ty, pos, af, g⟩ w Φ := by
  obtain ⟨bb, oo, len, cap0, hv, hadr⟩ := hat
  have hok := S.at j hj
  rcases hok with ⟨rfl, rfl⟩ | ⟨b2, cap, c, hv2, g1, g2, g3, g4, hb⟩
  · cases hv
  · rw [hv2] at hv
    simp only [Value.slice.injEq, Option.some.injEq, Addr.mk.injEq, and_true] at hv
    obtain ⟨⟨rfl, rfl⟩, rfl, rfl⟩ := hv
    simp only [Addr.mk.injEq, and_true, Nat.zero_add] at hadr
    obtain ⟨rfl, rfl⟩ := hadr
    have hil : i < l.length := (List.getElem?_eq_some_iff.1 ha).1
    have hbound : i * E.sz + f + vs.length ≤ l.length * E.sz := by
      have : (i + 1) * E.sz ≤ l.length * E.sz := Nat.mul_le_mul_right _ hil
      rw [Nat.add_mul] at this; omega
    have hcl : l.length * E.sz ≤ c.length := by rw [g3]; exact Nat.mul_le_mul_right _ g1
    have hK : Keep (vec E v l).fp w (w.setRow b' (splice c (i * E.sz + f) vs).toArray) := (Keep.setRow w _).mono fun bb _ e => ⟨l.length, cap, by subst e; exact hv2⟩
    refine s_skip hg nofun (w' := w.setRow b' (splice c (i * E.sz + f) vs).toArray) ?_ (h _ (S.turn j hj hK (fun _ _ h => h) (.inr ⟨b', cap, splice c (i * E.sz + f) vs, by simpa using hv2, by simpa using g1, g2, ?_, ?_, setRow_heap w b' _ _ E.T _ hb⟩) (fun _ h => .inl h)) hK)
    · have hr := run_storeCells_at P b' (i * E.sz + f) E.T vs 0 c.toArray w hb (by simp; omega) h1
      simp only [execOp, hx, Instr.storeAt, Instr.sureAddr, Sem.run_bind, Sem.run_pure, Result.andThen_ok, storeVar, hs]
      rw [hy]
      simp only [List.size_toArray, ne_eq, not_true_eq_false, if_false]
      rw [hr]
      simp only [Result.andThen_ok, Nat.add_zero]
      rfl
    · rw [splice_length (by omega), g3]
    · rw [List.length_set, take_splice hbound hcl, g4, flatMap_splice E l i f a a' vs ha hf he]

theorem s_storev1 {u : Value} (S : Own X w0 w L) (j : Nat) (hj : L[j]? = some (vec E v l)) (hg : gOk all n ρ g = true) (hat : At E v i ⟨b', o, none⟩)
    (hx : ev n ρ x = .pointer (some ⟨b', o + f, none⟩)) (hy : ev n ρ y = u) (h1 : u.oneCell' = true) (hs : ∀ w, (sizeOf T).run P w = .ok 1 w) (ha : l[i]? = some a) (hf : f + 1 ≤ E.sz)
    (he : splice (E.enc a) f [u] = E.enc a') (h : ∀ w', Own X w0 w' (L.set j (vec E v (l.set i a'))) → Keep (vec E v l).fp w w' → Φ undef w') :
    Sp P all n ρ ⟨d', .store T x y, ty, pos, af, g⟩ w Φ := by
  have hcs : u.cells = #[u] := by cases u <;> first | rfl | simp [Value.oneCell'] at h1
  exact s_storev S j hj hg hat hx (vs := [u]) (by rw [hy, hcs]) hs (by simpa using h1) ha hf he h
theorem s_storevi {z : Int} (S : Own X w0 w L) (j : Nat) (hj : L[j]? = some (vec E v l)) (hg : gOk all n ρ g = true) (hat : At E v i ⟨b', o, none⟩)
    (hx : ev n ρ x = .pointer (some ⟨b', o + f, none⟩)) (hy : ev n ρ y = .int .i64 z) (hs : ∀ w, (sizeOf T).run P w = .ok 1 w) (ha : l[i]? = some a) (hf : f + 1 ≤ E.sz)
    (he : splice (E.enc a) f [.int .i64 z] = E.enc a') (h : ∀ w', Own X w0 w' (L.set j (vec E v (l.set i a'))) → Keep (vec E v l).fp w w' → Φ undef w') :
    Sp P all n ρ ⟨d', .store T x y, ty, pos, af, g⟩ w Φ := s_storev1 S j hj hg hat hx hy rfl hs ha hf he h
theorem s_storevb {t : Bool} (S : Own X w0 w L) (j : Nat) (hj : L[j]? = some (vec E v l)) (hg : gOk all n ρ g = true) (hat : At E v i ⟨b', o, none⟩)
    (hx : ev n ρ x = .pointer (some ⟨b', o + f, none⟩)) (hy : ev n ρ y = .bool t) (hs : ∀ w, (sizeOf T).run P w = .ok 1 w) (ha : l[i]? = some a) (hf : f + 1 ≤ E.sz)
    (he : splice (E.enc a) f [.bool t] = E.enc a') (h : ∀ w', Own X w0 w' (L.set j (vec E v (l.set i a'))) → Keep (vec E v l).fp w w' → Φ undef w') :
    Sp P all n ρ ⟨d', .store T x y, ty, pos, af, g⟩ w Φ := s_storev1 S j hj hg hat hx hy rfl hs ha hf he h
theorem s_storeva {c : List Value} (S : Own X w0 w L) (j : Nat) (hj : L[j]? = some (vec E v l)) (hg : gOk all n ρ g = true) (hat : At E v i ⟨b', o, none⟩)
    (hx : ev n ρ x = .pointer (some ⟨b', o, none⟩)) (hy : ev n ρ y = .agg c.toArray) (hs : ∀ w, (sizeOf T).run P w = .ok E.sz w) (ha : l[i]? = some a) (he : c = E.enc a')
    (h : ∀ w', Own X w0 w' (L.set j (vec E v (l.set i a'))) → Keep (vec E v l).fp w w' → Φ undef w') :
    Sp P all n ρ ⟨d', .store T x y, ty, pos, af, g⟩ w Φ := by
  subst he
  exact s_storev (f := 0) S j hj hg hat hx (vs := E.enc a') (by rw [hy]; rfl) (by rw [E.len]; exact hs) (E.one a') ha (by rw [E.len]; omega) (splice_all (by rw [E.len, E.len])) h
end
end Go.Vk

/- The proof engine, part 16: copying, views, conversions. Generic over the program. -/
namespace Go.Vk
open Go

section
variable {P : Program} {ev : Operand → Value} {w : World} {ty : TypeId} {x y : Operand} {S T : TypeId} {a : Int}
theorem x_convert {s k : IntKind} {u : TypeDesc} (hx : ev x = .int s a) (hs : ∀ w, (underlying S).run P w = .ok u w) (hd : ∀ w, (underlying T).run P w = .ok (.int k) w) (hr : k.wrap a = a) : X P ev (.convert S T x) ty w (.int k a) w :=
  ⟨nofun, fun _ _ _ _ => by
    simp only [execOp, hx, convert, Sem.run_bind, hs, hd, Result.andThen_ok]
    cases u <;> simp [Conv.intToInt, hr, go_sem]⟩
theorem x_min {k : IntKind} {c : Int} {ts : Array TypeId} (hx : ev x = .int k a) (hy : ev y = .int k c) : X P ev (.call ⟨.builtin .min, #[x, y], ts⟩) ty w (.int k (min a c)) w :=
  ⟨nofun, fun _ _ _ _ => by
    have h : min a c = if c < a then c else a := by simp only [Int.min_def]; split <;> split <;> omega
    simp only [execOp, resolve, Sem.run_bind, Sem.run_pure, Result.andThen_ok, invoke, builtin, List.map_toArray, List.map_cons, List.map_nil, hx, hy, Builtin.min_, List.foldlM_cons, List.foldlM_nil]
    simp [Builtin.min2, h, go_sem]⟩
theorem u64_in {a : Int} (h : 0 ≤ a ∧ a < 18446744073709551616) : IntKind.u64.wrap a = a := IntWalk.u64_in a ⟨h.1, by omega⟩
theorem i64_in {a : Int} (h : -9223372036854775808 ≤ a ∧ a ≤ 9223372036854775807) : IntKind.i64.wrap a = a := IntWalk.i64_in _ h
end

theorem tail_self {α : Type} {E : Elt α} {v : Value} {l : List α} {w : World} (h : (vec E v l).ok w) : Tail E v v 0 := by
  rcases h with ⟨hv, _⟩ | ⟨b, cap, c, hv, h1, _⟩
  · exact .inl ⟨hv, hv, rfl⟩
  · exact .inr ⟨b, l.length, cap, hv, Nat.zero_le _, h1, by rw [hv]; simp⟩

section
variable {P : Program} {b : Frame} {cs : List Frame} {fin : Machine → Prop} {n : Nat} {all : Array Oper} {rest : List Oper} {k : List Item} {ρ : Env} {ds : List Deferred} {w : World} {X : Nat → Prop} {w0 : World} {L : List Rsc}
  {d : Nat} {d' : Option Nat} {ty : TypeId} {pos : String} {af : Array Edge} {g : Option (Nat × Bool)} {T T' : TypeId} {x y : Operand} {α : Type} {E : Elt α} {v vd vs : Value} {l xs : List α} {p : Nat}

theorem flatMap_drop (E : Elt α) : ∀ (l : List α) (q : Nat), (l.drop q).flatMap E.enc = (l.flatMap E.enc).drop (q * E.sz) := by
  intro l
  induction l with
  | nil => intro q; simp
  | cons a l ih =>
    intro q
    cases q with
    | zero => simp
    | succ q =>
      have h1 : (q + 1) * E.sz = E.sz + q * E.sz := by rw [Nat.add_mul]; omega
      have hd : (E.enc a).drop (E.sz + q * E.sz) = [] := List.drop_of_length_le (by rw [E.len]; omega)
      have h2 : E.sz + q * E.sz - E.sz = q * E.sz := by omega
      rw [List.drop_succ_cons, ih, h1, List.flatMap_cons, List.drop_append, hd, E.len, List.nil_append, h2]

/-- 'copy' into a slice of one's own whose elements have one cell each. -/
theorem x_copy {ev : Operand → Value} (S : Own X w0 w L) (j : Nat) (hj : L[j]? = some (vec E v l)) (ht : Tail E v vd p) (hx : ev x = vd) (hy : ev y = vs) (hr : Rd E w vs xs)
    (hu : P.underlying T = some (.slice E.T)) (hs : (P.info? E.T).map (·.size) = some 1) (hsz : E.sz = 1) :
    ∃ w', Vk.X P ev (.call ⟨.builtin .copy, #[x, y], #[T, T']⟩) ty w (.int .i64 (min xs.length (l.length - p) : Nat)) w' ∧
      Own X w0 w' (L.set j (vec E v (l.take p ++ (xs.take (min xs.length (l.length - p)) ++ l.drop (p + min xs.length (l.length - p)))))) ∧ Keep (vec E v l).fp w w' := by
  have hrun : ∀ (m : Nat) (w' : World), (Builtin.copy_ #[T, T'] ty #[vd, vs]).run P w = .ok (goInt m) w' → Vk.X P ev (.call ⟨.builtin .copy, #[x, y], #[T, T']⟩) ty w (.int .i64 m) w' := by
    intro m w' h
    refine ⟨nofun, fun _ _ _ _ => ?_⟩
    simp only [execOp, resolve, Sem.run_bind, Sem.run_pure, Result.andThen_ok, invoke, builtin, List.map_toArray, List.map_cons, List.map_nil, hx, hy, h]
    rfl
  obtain ⟨i, hi, hi1⟩ : ∃ i, P.info? E.T = some i ∧ i.size = 1 := by
    cases hq : P.info? E.T with
    | none => simp [hq] at hs
    | some i => exact ⟨i, rfl, by simpa [hq] using hs⟩
  obtain ⟨a, scap, rfl, hsc, hrow⟩ := hr
  have hflat : ∀ (m : Nat), m ≤ xs.length → ((xs.take m).flatMap E.enc).length = m := by
    intro m hm; rw [flatMap_enc_length, List.length_take, hsz]; omega
  have hzero : min xs.length (l.length - p) = 0 → (∃ b c, vd = .slice b (l.length - p) c) →
      (Builtin.copy_ #[T, T'] ty #[vd, .slice a xs.length scap]).run P w = .ok (goInt 0) w := by
    rintro h0 ⟨bb, cc, rfl⟩
    have h0' : Nat.min xs.length (l.length - p) = 0 := h0
    cases a with
    | none => cases bb <;> simp [Builtin.copy_, run_underlying hu, Builtin.lenOf, Builtin.firstCells, sizeOf, typeInfo, hi, storeCells, h0', go_sem]
    | some a => cases bb <;> simp [Builtin.copy_, run_underlying hu, Builtin.lenOf, Builtin.firstCells, sizeOf, typeInfo, hi, storeCells, h0', loadCells, go_sem]
  have hsame : min xs.length (l.length - p) = 0 → l.take p ++ (xs.take (min xs.length (l.length - p)) ++ l.drop (p + min xs.length (l.length - p))) = l := by
    intro h0; rw [h0]; simp
  rcases ht with ⟨hv, rfl, rfl⟩ | ⟨b1, len, cap1, hv, h1, h2, rfl⟩
  · rcases S.at j hj with ⟨_, rfl⟩ | ⟨b', cap, c, hv2, _⟩
    · have h0 : min xs.length (([] : List α).length - 0) = 0 := by simp
      refine ⟨w, hrun _ _ (by rw [h0]; exact hzero h0 ⟨none, 0, rfl⟩), ?_, Keep.refl _ _⟩
      rw [hsame h0]
      exact S.as j hj (S.at j hj) fun _ h => h
    · rw [hv] at hv2; cases hv2
  · rcases S.at j hj with ⟨hv2, _⟩ | ⟨b', cap, c, hv2, g1, g2, g3, g4, hb⟩
    · rw [hv] at hv2; cases hv2
    · have hv0 := hv2
      rw [hv] at hv2
      simp only [Value.slice.injEq, Option.some.injEq, Addr.mk.injEq, and_true] at hv2
      obtain ⟨rfl, rfl, rfl⟩ := hv2
      by_cases h0 : min xs.length (l.length - p) = 0
      · refine ⟨w, hrun _ _ (by rw [h0]; exact hzero h0 ⟨_, _, rfl⟩), ?_, Keep.refl _ _⟩
        rw [hsame h0]
        exact S.as j hj (S.at j hj) fun _ h => h
      · obtain ⟨q, hq⟩ : ∃ q, q = min xs.length (l.length - p) := ⟨_, rfl⟩
        rw [← hq] at h0 ⊢
        have hql : q ≤ xs.length := by omega
        have hqp : p + q ≤ l.length := by omega
        have hne : cap1 ≠ p := by omega
        have hc1 : c.length = cap1 := by rw [g3, hsz, Nat.mul_one]
        have h4 : c.take l.length = l.flatMap E.enc := by rw [← g4, hsz, Nat.mul_one]
        obtain ⟨x0, hx0⟩ : ∃ x0, xs[0]? = some x0 := ⟨_, List.getElem?_eq_getElem (by omega)⟩
        obtain ⟨sb, so, rfl, _⟩ := hrow 0 x0 hx0
        have hcs := run_copy_row (P := P) w T T' ty E.T b1 p (l.length - p) (cap1 - p) ⟨sb, so, none⟩ xs.length scap c.toArray E.T ((xs.take q).flatMap E.enc) hu hs hb (by rw [hflat q hql, hq])
          (fun jj u hjj => by
            have hlt : jj < q := by have := (List.getElem?_eq_some_iff.1 hjj).1; rw [hflat q hql] at this; exact this
            obtain ⟨xj, hxj⟩ : ∃ xj, xs[jj]? = some xj := ⟨_, List.getElem?_eq_getElem (by omega)⟩
            obtain ⟨b2, o2, hb2, hr2⟩ := hrow jj xj hxj
            simp only [Option.some.injEq, Addr.mk.injEq, and_true] at hb2
            obtain ⟨rfl, rfl⟩ := hb2
            have hlen1 : (E.enc xj).length = 1 := by rw [E.len, hsz]
            obtain ⟨z, hz⟩ := List.length_eq_one_iff.1 hlen1
            have h5 : (xs.take q)[jj]? = some xj := by rw [List.getElem?_take, if_pos hlt]; exact hxj
            have h6 := flatMap_enc_get E (xs.take q) jj xj 0 z h5 (by rw [hz]; rfl)
            rw [hsz, Nat.mul_one, Nat.add_zero, hjj] at h6
            have h6' : z = u := Option.some.inj h6.symm
            subst h6'
            have h7 := hr2 0 z (by rw [hz]; rfl)
            rw [hsz, Nat.mul_one, Nat.add_zero] at h7
            rw [addr_add]; exact h7)
          (by rw [hflat q hql, List.size_toArray]; omega) (fun u hu' => by obtain ⟨zz, _, hzz⟩ := List.mem_flatMap.1 hu'; exact E.one zz u hzz)
        rw [hflat q hql] at hcs
        have hlen : (l.take p ++ (xs.take q ++ l.drop (p + q))).length = l.length := by simp; omega
        refine ⟨w.setRow b1 (c.take p ++ (xs.take q).flatMap E.enc ++ c.drop (p + q)).toArray, hrun _ _ ?_, ?_, (Keep.setRow w _).mono fun bb _ e => ⟨l.length, cap1, by subst e; exact hv0⟩⟩
        · rw [if_neg hne, hsz, Nat.mul_one]
          exact hcs
        · refine S.turn j hj ((Keep.setRow w _).mono fun bb _ e => ⟨l.length, cap1, by subst e; exact hv0⟩) (fun _ _ h => h) ?_ (fun _ h => .inl h)
          refine .inr ⟨b1, cap1, _, by rw [hlen]; exact hv0, by rw [hlen]; exact g1, g2, ?_, ?_, setRow_heap w b1 _ _ E.T _ hb⟩
          · simp [hsz, hflat q hql]; omega
          · rw [hlen, hsz, Nat.mul_one, List.flatMap_append, List.flatMap_append, flatMap_take E l p, flatMap_drop E l (p + q), hsz, Nat.mul_one, Nat.mul_one, ← h4, List.take_take, Nat.min_eq_left h1]
            have hA : (c.take p ++ (xs.take q).flatMap E.enc).length = p + q := by rw [List.length_append, hflat q hql, List.length_take]; omega
            rw [List.take_append, List.take_of_length_le (by rw [hA]; exact hqp), hA, List.append_assoc, List.drop_take]

theorem l_copy (S : Own X w0 w L) (j : Nat) (hj : L[j]? = some (vec E v l)) (hg : gOk all n ρ g = true) (ht : Tail E v vd p) (hx : ev n ρ x = vd) (hy : ev n ρ y = vs) (hr : Rd E w vs xs)
    (hu : P.underlying T = some (.slice E.T)) (hs : (P.info? E.T).map (·.size) = some 1) (hsz : E.sz = 1)
    (h : ∀ w', Own X w0 w' (L.set j (vec E v (l.take p ++ (xs.take (min xs.length (l.length - p)) ++ l.drop (p + min xs.length (l.length - p)))))) → Keep (vec E v l).fp w w' →
      RunL P b cs fin n all rest k (upd ρ d (.int .i64 (min xs.length (l.length - p) : Nat))) ds w') :
    RunL P b cs fin n all (⟨some d, .call ⟨.builtin .copy, #[x, y], #[T, T']⟩, ty, pos, af, g⟩ :: rest) k ρ ds w := by
  obtain ⟨w', h1, h2, h3⟩ := x_copy (T' := T') (ty := ty) S j hj ht hx hy hr hu hs hsz
  exact l_x hg h1 (h w' h2 h3)
theorem s_copy {Φ : Value → World → Prop} (S : Own X w0 w L) (j : Nat) (hj : L[j]? = some (vec E v l)) (hg : gOk all n ρ g = true) (ht : Tail E v vd p) (hx : ev n ρ x = vd) (hy : ev n ρ y = vs) (hr : Rd E w vs xs)
    (hu : P.underlying T = some (.slice E.T)) (hs : (P.info? E.T).map (·.size) = some 1) (hsz : E.sz = 1)
    (h : ∀ w', Own X w0 w' (L.set j (vec E v (l.take p ++ (xs.take (min xs.length (l.length - p)) ++ l.drop (p + min xs.length (l.length - p)))))) → Keep (vec E v l).fp w w' →
      Φ (.int .i64 (min xs.length (l.length - p) : Nat)) w') :
    Sp P all n ρ ⟨d', .call ⟨.builtin .copy, #[x, y], #[T, T']⟩, ty, pos, af, g⟩ w Φ := by
  obtain ⟨w', h1, h2, h3⟩ := x_copy (T' := T') (ty := ty) S j hj ht hx hy hr hu hs hsz
  exact s_x hg h1 (h w' h2 h3)

/-- The end of a slice of one's own, the value alone. -/
theorem x_tailv {ev : Operand → Value} {z : Operand} {q : Int} (hok : (vec E v l).ok w) (hx : ev x = v) (hz : ev z = .int .i64 q) (hu : ∀ w, (underlying T).run P w = .ok (.slice E.T) w) (hs : ∀ w, (sizeOf E.T).run P w = .ok E.sz w) (hq : 0 ≤ q ∧ q ≤ l.length) :
    ∃ v', Tail E v v' q.toNat ∧ ∀ w1, Vk.X P ev (.slice T x (some z) none none) ty w1 v' w1 := by
  rcases hok with ⟨hv, rfl⟩ | ⟨b', cap, c, hv, h1, h2, h3, h4, hb⟩
  · have hx2 := hx.trans hv
    have hq0 : q = 0 := by simp at hq; omega
    subst hq0
    exact ⟨_, .inl ⟨hv, by simp, rfl⟩, fun w1 => x_cut (w := w1) hx2 hu hs (p := 0) (q := 0) (by simp [hz]) rfl (by simp) (Nat.le_refl _)⟩
  · have hx2 := hx.trans hv
    refine ⟨_, .inr ⟨b', l.length, cap, hv, by omega, h1, ?_⟩, fun w1 => x_cut (w := w1) hx2 hu hs (p := q) (q := l.length) (by simp [hz]) rfl (by omega) h1⟩
    split
    · rename_i e; simp [e]
    · simp [addr_add]
/-- The head of a slice, to be read. -/
theorem x_headv {ev : Operand → Value} {z : Operand} {q : Int} (hr : Rd E w v l) (hx : ev x = v) (hz : ev z = .int .i64 q) (hu : ∀ w, (underlying T).run P w = .ok (.slice E.T) w) (hs : ∀ w, (sizeOf E.T).run P w = .ok E.sz w) (hq : 0 ≤ q ∧ q ≤ l.length) :
    ∃ v', Rd E w v' (l.take q.toNat) ∧ ∀ w1, Vk.X P ev (.slice T x none (some z) none) ty w1 v' w1 := by
  obtain ⟨a, cap, rfl, hc, hrow⟩ := hr
  have hlen : (l.take q.toNat).length = q.toNat := by rw [List.length_take]; omega
  refine ⟨_, ?_, fun w1 => x_cut (w := w1) hx hu hs (p := 0) (q := q) rfl (by simp [hz]) (by omega) hc⟩
  refine ⟨_, _, by rw [hlen, Int.toNat_zero, Nat.sub_zero], by rw [hlen]; simp; omega, fun i e hi => ?_⟩
  rw [List.getElem?_take] at hi
  split at hi
  · obtain ⟨b', o', rfl, hr⟩ := hrow i e hi
    refine ⟨b', o', ?_, hr⟩
    split
    · rfl
    · simp [addr_add]
  · cases hi
end

section
variable {P : Program} {b : Frame} {cs : List Frame} {fin : Machine → Prop} {n : Nat} {k : List Item} {ρ : Env} {ds : List Deferred} {w : World} {ops : Array Oper} {m : Nat} {Y : Nat → Prop} {listed listed' : Array Bool}
  {d : Nat} {ty : TypeId} {pos : String} {af : Array Edge} {g : Option (Nat × Bool)} {v : Value} {T : TypeId} {x z : Operand} {α : Type} {E : Elt α} {l : List α} {q : Int}
theorem e_tail (i : Nat) (hok : drawOk ops m = true) (ho : ops[i]? = some ⟨some d, .slice T x (some z) none none, ty, pos, af, g⟩) (him : Nat.blt i m = true) (hr : rdy ops listed i = true)
    (hl : listed.setIfInBounds i true = listed') (hg : gOk ops n ρ g = true) (hv : (vec E v l).ok w) (hx : ev n ρ x = v) (hz : ev n ρ z = .int .i64 q)
    (hu : ∀ w, (underlying T).run P w = .ok (.slice E.T) w) (hs : ∀ w, (sizeOf E.T).run P w = .ok E.sz w) (hq : 0 ≤ q ∧ q ≤ l.length)
    (h : ∀ v', Tail E v v' q.toNat → RE P b cs fin n ops m (Keep Y) k ds listed' (upd ρ d v') w) : RE P b cs fin n ops m (Keep Y) k ds listed ρ w := by
  obtain ⟨v', h1, h2⟩ := x_tailv (P := P) (ty := ty) hv hx hz hu hs hq
  exact e_exact i _ hok ho him hr hl (ex_x hg fun w1 _ => h2 w1) (h v' h1)
theorem e_head (i : Nat) (hok : drawOk ops m = true) (ho : ops[i]? = some ⟨some d, .slice T x none (some z) none, ty, pos, af, g⟩) (him : Nat.blt i m = true) (hr : rdy ops listed i = true)
    (hl : listed.setIfInBounds i true = listed') (hg : gOk ops n ρ g = true) (hv : Rd E w v l) (hx : ev n ρ x = v) (hz : ev n ρ z = .int .i64 q)
    (hu : ∀ w, (underlying T).run P w = .ok (.slice E.T) w) (hs : ∀ w, (sizeOf E.T).run P w = .ok E.sz w) (hq : 0 ≤ q ∧ q ≤ l.length)
    (h : ∀ v', Rd E w v' (l.take q.toNat) → RE P b cs fin n ops m (Keep Y) k ds listed' (upd ρ d v') w) : RE P b cs fin n ops m (Keep Y) k ds listed ρ w := by
  obtain ⟨v', h1, h2⟩ := x_headv (P := P) (ty := ty) hv hx hz hu hs hq
  exact e_exact i _ hok ho him hr hl (ex_x hg fun w1 _ => h2 w1) (h v' h1)
end

/-- A list of c numbers whose first i are z already. -/
def rp (z : Int) (c i : Nat) : List Int := List.replicate i z ++ List.replicate (c - i) 0
theorem rp_len {z : Int} {c i : Nat} (h : i ≤ c) : (rp z c i).length = c := by simp [rp]; omega
theorem rp_full {z : Int} {c : Nat} : rp z c c = List.replicate c z := by simp [rp]
theorem rp_take {z : Int} {c i : Nat} : (rp z c i).take i = List.replicate i z := by
  rw [rp, List.take_left' (by simp)]
theorem rp_start {z : Int} {c : Nat} : (List.replicate c 0).take 0 ++ ([z].take (min [z].length ((List.replicate c (0:Int)).length - 0)) ++ (List.replicate c 0).drop (0 + min [z].length ((List.replicate c (0:Int)).length - 0))) = rp z c (min 1 c) := by
  cases c with
  | zero => simp [rp]
  | succ c =>
    have e : min 1 (c + 1) = 1 := by omega
    simp [rp, e]
theorem rp_copy {z : Int} {c i : Nat} (h : i ≤ c) : (rp z c i).take i ++ (((rp z c i).take i).take (min ((rp z c i).take i).length ((rp z c i).length - i)) ++ (rp z c i).drop (i + min ((rp z c i).take i).length ((rp z c i).length - i))) =
    rp z c (i + min ((rp z c i).take i).length ((rp z c i).length - i)) := by
  rw [rp_take, rp_len h, List.length_replicate, List.take_replicate]
  have hq : min i (c - i) ≤ c - i := by omega
  obtain ⟨q, hq'⟩ : ∃ q, q = min i (c - i) := ⟨_, rfl⟩
  rw [← hq'] at hq ⊢
  have e1 : min q i = q := by omega
  rw [e1, rp, rp, ← List.append_assoc, List.replicate_append_replicate]
  congr 1
  rw [List.drop_append, List.drop_of_length_le (by simp), List.nil_append, List.length_replicate, List.drop_replicate]
  congr 1
  omega

/-- The whole of an array as a slice. -/
theorem x_sliceall {P : Program} {ev : Operand → Value} {w : World} {T ty e : TypeId} {x : Operand} {b o n s : Nat} (hx : ev x = .pointer (some ⟨b, o, none⟩)) (hu : ∀ w, (underlying T).run P w = .ok (.array n e) w) (hs : ∀ w, (sizeOf e).run P w = .ok s w) :
    X P ev (.slice T x none none none) ty w (.slice (some ⟨b, o, none⟩) n n) w := by
  refine ⟨nofun, fun _ _ _ _ => ?_⟩
  have ha : (⟨b, o, none⟩ : Addr).add 0 = ⟨b, o, none⟩ := rfl
  simp only [execOp, Instr.sliceAt, Option.map_none, hx, Sem.run_bind, hu, Result.andThen_ok, Instr.sureAddr, Sem.run_pure, Instr.sliceBounds, hs, Nat.zero_mul, ha, Nat.sub_zero]
  split <;> rfl

theorem foldl_max_pos : ∀ (l : List Int) (a : Int), 0 < l.foldl max a ↔ 0 < a ∨ ∃ z ∈ l, 0 < z := by
  intro l
  induction l with
  | nil => intro a; simp
  | cons b l ih =>
    intro a
    rw [List.foldl_cons, ih]
    constructor
    · rintro (h | ⟨z, hz, h⟩)
      · by_cases ha : 0 < a
        · exact .inl ha
        · exact .inr ⟨b, List.mem_cons_self .., by omega⟩
      · exact .inr ⟨z, List.mem_cons_of_mem _ hz, h⟩
    · rintro (h | ⟨z, hz, h⟩)
      · exact .inl (by omega)
      · rcases List.mem_cons.1 hz with rfl | hz
        · exact .inl (by omega)
        · exact .inr ⟨z, hz, h⟩
theorem maxOf_pos {zs : List Int} (h : zs ≠ []) : 0 < Lib.maxOf zs ↔ ∃ z ∈ zs, 0 < z := by
  unfold Lib.maxOf
  rw [foldl_max_pos]
  cases zs with
  | nil => exact absurd rfl h
  | cons a l =>
    constructor
    · rintro (h | h)
      · exact ⟨a, List.mem_cons_self .., by simpa using h⟩
      · exact h
    · intro h; exact .inr h
end Go.Vk

/- Nets, as plain mathematics, part 5: what the package's functions answer. No program in sight. -/
namespace Go.Vk.Flow
open Go

/-- There is no circulation. -/
def NoC (N : Int) (arcs : List Arc) : Prop := ∃ A ns, hind N arcs A ns = true
theorem NoC.no {N : Int} {arcs : List Arc} (h : NoC N arcs) (hV : Valid N arcs) {x : List Int} (hc : Circ arcs x) : False := let ⟨_, _, hh⟩ := h; hind_no hV hh hc

theorem zero_wts (arcs : List Arc) : Wts arcs (List.replicate arcs.length 0) := ⟨List.length_replicate, fun y hy => by have := List.eq_of_mem_replicate hy; omega⟩

/-- What Some answers. -/
inductive SomeR (N : Int) (arcs : List Arc) : List Int → Int → Prop
  | bad : chk N arcs ≠ 0 → SomeR N arcs [] (chk N arcs)
  | no : Valid N arcs → NoC N arcs → SomeR N arcs [] 60
  | yes {x : List Int} : Valid N arcs → Circ arcs x → SomeR N arcs x 0
/-- What Obstacle answers. -/
inductive ObsR (N : Int) (arcs : List Arc) : Int → List Int → Bool → Int → Prop
  | bad : chk N arcs ≠ 0 → ObsR N arcs 0 [] false (chk N arcs)
  | no {A : Int} {ns : List Int} : Valid N arcs → hind N arcs A ns = true → ObsR N arcs A ns true 0
  | yes {x : List Int} : Valid N arcs → Circ arcs x → ObsR N arcs 0 [] false 0

def askw (N : Int) (arcs : List Arc) (wl : List Int) : Int := askd N arcs (row wl arcs.length (-1000) 1000)
theorem askw_zero {N : Int} {arcs : List Arc} {wl : List Int} : askw N arcs wl = 0 ↔ Valid N arcs ∧ Wts arcs wl := by rw [askw, askd_zero, row_wts]
/-- What Greatest answers: the sum, the amounts, the potentials, the error. -/
inductive GrR (N : Int) (arcs : List Arc) (wl : List Int) : Int → List Int → List Int → Int → Prop
  | bad : askw N arcs wl ≠ 0 → GrR N arcs wl 0 [] [] (askw N arcs wl)
  | no : Valid N arcs → Wts arcs wl → NoC N arcs → GrR N arcs wl 0 [] [] 60
  | yes {x q : List Int} : Valid N arcs → Wts arcs wl → Opt N arcs wl x q → GrR N arcs wl (dot wl x) x q 0

theorem row_neg (wl : List Int) (n : Int) : row (wl.map (- ·)) n (-1000) 1000 = row wl n (-1000) 1000 := by
  rw [Bool.eq_iff_iff, row_iff, row_iff, List.length_map]
  constructor
  · rintro ⟨h1, h2⟩
    refine ⟨h1, fun x hx => ?_⟩
    have := h2 (-x) (List.mem_map.2 ⟨x, hx, rfl⟩)
    omega
  · rintro ⟨h1, h2⟩
    refine ⟨h1, fun x hx => ?_⟩
    obtain ⟨y, hy, rfl⟩ := List.mem_map.1 hx
    have := h2 y hy
    show -1000 ≤ -y ∧ -y ≤ 1000
    omega
theorem askw_neg (N : Int) (arcs : List Arc) (wl : List Int) : askw N arcs (wl.map (- ·)) = askw N arcs wl := by rw [askw, row_neg]; rfl
theorem GrR.badneg {N : Int} {arcs : List Arc} {wl : List Int} (h : askw N arcs wl ≠ 0) : GrR N arcs (wl.map (- ·)) 0 [] [] (askw N arcs wl) := by
  rw [← askw_neg] at h ⊢; exact .bad h
theorem neg_wts {arcs : List Arc} {wl : List Int} (h : Wts arcs wl) : Wts arcs (wl.map (- ·)) := by
  have := row_wts.2 h
  rw [← row_neg] at this
  exact row_wts.1 this

def inb (arcs : List Arc) (i : Int) : Bool := decide (0 ≤ i ∧ i ≤ (arcs.length : Int) - 1)
def aski (N : Int) (arcs : List Arc) (i : Int) : Int := askd N arcs (inb arcs i)
theorem aski_zero {N : Int} {arcs : List Arc} {i : Int} : aski N arcs i = 0 ↔ Valid N arcs ∧ 0 ≤ i ∧ i < arcs.length := by
  rw [aski, askd_zero, inb, decide_eq_true_eq]
  constructor
  · rintro ⟨h1, h2⟩; exact ⟨h1, by omega⟩
  · rintro ⟨h1, h2⟩; exact ⟨h1, by omega⟩
theorem Opt.unit_eq {N : Int} {arcs : List Arc} {i : Nat} {k : Int} {x q : List Int} (h : Opt N arcs (unit arcs.length i k) x q) (hi : i < arcs.length) : dot (unit arcs.length i k) x = k * nth x i :=
  dot_unit arcs.length i x hi (nth_get (by rw [h.circ.bds.1]; exact hi))
/-- What Range answers: the least amount of an arc, the greatest, the error. -/
inductive RaR (N : Int) (arcs : List Arc) (i : Int) : Int → Int → Int → Prop
  | bad : aski N arcs i ≠ 0 → RaR N arcs i 0 0 (aski N arcs i)
  | no : aski N arcs i = 0 → NoC N arcs → RaR N arcs i 0 0 60
  | yes {x q y r : List Int} : aski N arcs i = 0 → Opt N arcs (unit arcs.length i.toNat (-1)) x q → Opt N arcs (unit arcs.length i.toNat 1) y r → RaR N arcs i (nth x i.toNat) (nth y i.toNat) 0

/-- What one end of a range answers. -/
inductive EndR (N : Int) (arcs : List Arc) (i : Nat) (k : Int) : Int → Int → Prop
  | no : NoC N arcs → EndR N arcs i k 0 60
  | yes {x q : List Int} : Opt N arcs (unit arcs.length i k) x q → EndR N arcs i k (nth x i) 0
theorem GrR.low {N : Int} {arcs : List Arc} {i : Nat} {n e : Int} {x q : List Int} (h : GrR N arcs (unit arcs.length i (-1)) n x q e) (hV : Valid N arcs) (hi : i < arcs.length) : EndR N arcs i (-1) (-n) e := by
  cases h with
  | bad h => exact absurd (askw_zero.2 ⟨hV, unit_wts (by omega)⟩) h
  | no _ _ h => exact .no h
  | yes _ _ h =>
    rw [h.unit_eq hi]
    have e : -(-1 * nth x i) = nth x i := by omega
    rw [e]
    exact .yes h
theorem GrR.high {N : Int} {arcs : List Arc} {i : Nat} {n e : Int} {x q : List Int} (h : GrR N arcs (unit arcs.length i 1) n x q e) (hV : Valid N arcs) (hi : i < arcs.length) : EndR N arcs i 1 n e := by
  cases h with
  | bad h => exact absurd (askw_zero.2 ⟨hV, unit_wts (by omega)⟩) h
  | no _ _ h => exact .no h
  | yes _ _ h =>
    rw [h.unit_eq hi, Int.one_mul]
    exact .yes h
theorem RaR.of {N : Int} {arcs : List Arc} {i : Int} {n m e f : Int} (h0 : aski N arcs i = 0) (h : EndR N arcs i.toNat (-1) n e) (he : e = 0) (h' : EndR N arcs i.toNat 1 m f) (hf : f = 0) : RaR N arcs i n m 0 := by
  cases h with
  | no => cases he
  | yes h1 =>
    cases h' with
    | no => cases hf
    | yes h2 => exact .yes h0 h1 h2
theorem EndR.cut {N : Int} {arcs : List Arc} {i : Nat} {k n e : Int} (h : EndR N arcs i k n e) (he : e ≠ 0) : e = 60 ∧ NoC N arcs := by
  cases h with
  | no h => exact ⟨rfl, h⟩
  | yes => exact absurd rfl he
theorem GrR.bd {N : Int} {arcs : List Arc} {wl x q : List Int} {n e : Int} (h : GrR N arcs wl n x q e) : -4000000000000 ≤ n ∧ n ≤ 4000000000000 := by
  cases h with
  | bad => omega
  | no => omega
  | yes hV hw ho =>
    have h1 := dot_bd_take (ys := wl) (zs := x) (by have := hV.len; have := hw.len; omega) hw.bd (ho.circ.amts hV).bd wl.length
    rw [List.take_length, List.take_of_length_le (by rw [ho.circ.bds.1, hw.len]; exact Nat.le_refl _)] at h1
    exact h1
/-- The two ends, in order. -/
def sgn (i : Nat) : Int := if i = 0 then -1 else 1
theorem Ends.more {N : Int} {arcs : List Arc} {i k : Nat} {f : Nat → Int} {n e : Int} (h : ∀ j, j < i → EndR N arcs k (sgn j) (f j) 0) (hn : EndR N arcs k (sgn i) n e) (he : e = 0) : ∀ j, j < i + 1 → EndR N arcs k (sgn j) (upf f i n j) 0 := by
  subst he
  intro j hj
  unfold upf
  by_cases e : j = i
  · subst e; rw [if_pos rfl]; exact hn
  · rw [if_neg e]; exact h j (by omega)
theorem Ends.done {N : Int} {arcs : List Arc} {i : Int} {f : Nat → Int} (h0 : aski N arcs i = 0) (h : ∀ j, j < 2 → EndR N arcs i.toNat (sgn j) (f j) 0) : RaR N arcs i (f 0) (f 1) 0 := RaR.of h0 (h 0 (by decide)) rfl (h 1 (by decide)) rfl
/-- A list of functions that have taken one argument. -/
def fnE (T : TypeId) (c : Value) : Elt Nat where
  T := T
  sz := 1
  enc k := [.func (.func k) #[c] #[]]
  zero := [.nilFunc]
  len _ := rfl
  zlen := rfl
  one a x h := by simp at h; subst h; rfl
  pos := by decide
end Go.Vk.Flow

/- The proof engine, part 17: regions that draw their order and write what they have made. Generic over the program. -/
namespace Go.Vk
open Go

/-- The blocks made since. -/
def yng (w : World) : Nat → Prop := fun b => w.heap.size ≤ b

section
variable {X : Nat → Prop} {w0 w w1 w2 : World} {L : List Rsc}
theorem Own.yng (S : Own X w0 w L) (h : Keep (Vk.yng w) w w1) : Own X w0 w1 L := by
  have h' : Le w w1 := ⟨h.os, h.tape, h.output, h.size, fun b hb _ => h.block b hb (Nat.not_le_of_gt hb)⟩
  exact S.step h'
theorem yng_blk {b : Nat} (h : Keep (Vk.yng w) w w1) (hb : w1.heap.size ≤ b) {u u' : World} (hk : Keep (· = b) u u') : Keep (Vk.yng w) u u' :=
  hk.mono fun c _ e => by subst e; exact Nat.le_trans h.size hb
end

section
variable {P : Program} {n : Nat} {all : Array Oper} {ρ : Env} {w : World} {d : Nat} {ty : TypeId} {pos : String} {af : Array Edge} {g : Option (Nat × Bool)} {T : TypeId} {x : Operand} {Φ : Value → World → Prop}
theorem s_allocY {X : Nat → Prop} {w0 : World} {L : List Rsc} {c : List Value} {z : Value} (S : Own X w0 w L) (hg : gOk all n ρ g = true) (hz : ∀ w, (zeroValue T).run P w = .ok z w) (hx : z.cells = c.toArray)
    (h : ∀ b' w', Own X w0 w' (L ++ [blk b' c T]) → Le w w' → w.heap.size ≤ b' → Φ (.pointer (some ⟨b', 0, none⟩)) w') :
    Sp P all n ρ ⟨some d, .alloc T, ty, pos, af, g⟩ w Φ := by
  refine s_x hg (v := .pointer (some ⟨w.heap.size, 0, none⟩)) (w' := w.alloc (.cells c.toArray T (0, 0))) ⟨nofun, fun _ _ _ _ => ?_⟩ (h _ _ (S.alloc c T) (Le.alloc_cells _ _ _) (Nat.le_refl _))
  simp only [execOp, Instr.alloc, Sem.run_bind, hz, run_newVar, Result.andThen_ok, Sem.run_pure, hx]
end
end Go.Vk

/- Nets, as plain mathematics, part 6: nets made of nets. No program in sight. -/
namespace Go.Vk.Flow
open Go

theorem set_get {α : Type} {l : List α} {i : Nat} {a b : α} (h : l[i]? = some a) : (l.set i b)[i]? = some b := List.getElem?_set_self (List.getElem?_eq_some_iff.1 h).1
theorem set_same {α : Type} {l : List α} {i : Nat} {a : α} (h : l[i]? = some a) : l.set i a = l := by
  obtain ⟨hi, rfl⟩ := List.getElem?_eq_some_iff.1 h
  exact List.set_getElem_self hi

/-! ### narrower -/

def rg (x m : Int) : Bool := decide (0 ≤ x ∧ x ≤ m)
/-- The error of Narrow. -/
def narE (N : Int) (arcs : List Arc) (i lo hi r : Int) : Int := askd N arcs (inb arcs i && rg lo 1000000 && rg hi 1000000 && rg r 1000000)
theorem narE_zero {N : Int} {arcs : List Arc} {i lo hi r : Int} : narE N arcs i lo hi r = 0 ↔ Valid N arcs ∧ (0 ≤ i ∧ i < arcs.length) ∧ (0 ≤ lo ∧ lo ≤ 1000000) ∧ (0 ≤ hi ∧ hi ≤ 1000000) ∧ 0 ≤ r ∧ r ≤ 1000000 := by
  rw [narE, askd_zero]
  simp only [inb, rg, Bool.and_eq_true, decide_eq_true_eq]
  constructor
  · rintro ⟨h0, ⟨⟨h1, h2⟩, h3⟩, h4⟩; exact ⟨h0, by omega, h2, h3, h4⟩
  · rintro ⟨h0, h1, h2, h3, h4⟩; exact ⟨h0, ⟨⟨by omega, h2⟩, h3⟩, h4⟩
def narLo (a : Arc) (lo r : Int) : Arc := if a.lo < lo then ⟨a.src, a.dst, lo, a.hi, r, a.hiBy⟩ else a
def narHi (a : Arc) (hi r : Int) : Arc := if hi < a.hi then ⟨a.src, a.dst, a.lo, hi, a.loBy, r⟩ else a
def nar1 (a : Arc) (lo hi r : Int) : Arc := narHi (narLo a lo r) hi r
/-- The net in which an arc is narrowed. -/
def nar (arcs : List Arc) (i : Nat) (lo hi r : Int) : List Arc := match arcs[i]? with | some a => arcs.set i (nar1 a lo hi r) | none => arcs
section
variable {arcs : List Arc} {i : Nat} {lo hi r : Int} {a : Arc}
theorem nar_of (ha : arcs[i]? = some a) : nar arcs i lo hi r = arcs.set i (nar1 a lo hi r) := by rw [nar, ha]
theorem nar00 (ha : arcs[i]? = some a) (h1 : ¬ a.lo < lo) (h2 : ¬ hi < a.hi) : arcs = nar arcs i lo hi r := by
  rw [nar_of ha, nar1, narLo, if_neg h1, narHi, if_neg h2, set_same ha]
theorem nar10 (ha : arcs[i]? = some a) (h1 : a.lo < lo) (h2 : ¬ hi < a.hi) : (arcs.set i ⟨a.src, a.dst, lo, a.hi, a.loBy, a.hiBy⟩).set i ⟨a.src, a.dst, lo, a.hi, r, a.hiBy⟩ = nar arcs i lo hi r := by
  rw [nar_of ha, nar1, narLo, if_pos h1, narHi, if_neg h2, List.set_set]
theorem nar01 (ha : arcs[i]? = some a) (h1 : ¬ a.lo < lo) (h2 : hi < a.hi) : (arcs.set i ⟨a.src, a.dst, a.lo, hi, a.loBy, a.hiBy⟩).set i ⟨a.src, a.dst, a.lo, hi, a.loBy, r⟩ = nar arcs i lo hi r := by
  rw [nar_of ha, nar1, narLo, if_neg h1, narHi, if_pos h2, List.set_set]
theorem nar11 (ha : arcs[i]? = some a) (h1 : a.lo < lo) (h2 : hi < a.hi) : (((arcs.set i ⟨a.src, a.dst, lo, a.hi, a.loBy, a.hiBy⟩).set i ⟨a.src, a.dst, lo, a.hi, r, a.hiBy⟩).set i ⟨a.src, a.dst, lo, hi, r, a.hiBy⟩).set i ⟨a.src, a.dst, lo, hi, r, r⟩ = nar arcs i lo hi r := by
  rw [nar_of ha, nar1, narLo, if_pos h1, narHi, if_pos h2, List.set_set, List.set_set, List.set_set]
end

/-! ### without a record -/

def wotE (N : Int) (arcs : List Arc) (r : Int) : Int := askd N arcs (decide (1 ≤ r ∧ r ≤ 1000000))
theorem wotE_zero {N : Int} {arcs : List Arc} {r : Int} : wotE N arcs r = 0 ↔ Valid N arcs ∧ 1 ≤ r ∧ r ≤ 1000000 := by
  rw [wotE, askd_zero, decide_eq_true_eq]
def wotLo (a : Arc) (r : Int) : Arc := if a.loBy = r then ⟨a.src, a.dst, 0, a.hi, 0, a.hiBy⟩ else a
def wotHi (a : Arc) (r : Int) : Arc := if a.hiBy = r then ⟨a.src, a.dst, a.lo, 1000000, a.loBy, 0⟩ else a
def wot1 (r : Int) (a : Arc) : Arc := wotHi (wotLo a r) r
def wot (arcs : List Arc) (r : Int) : List Arc := arcs.map (wot1 r)

/-- A list of which the first i elements are turned. -/
def prm {α : Type} (f : α → α) (l : List α) (i : Nat) : List α := (l.take i).map f ++ l.drop i
section
variable {α : Type} {f : α → α} {l : List α} {i : Nat} {a : α}
theorem prm_zero : prm f l 0 = l := by simp [prm]
theorem prm_full : prm f l l.length = l.map f := by simp [prm]
theorem prm_length : (prm f l i).length = l.length := by simp [prm]; omega
theorem prm_get (h : l[i]? = some a) : (prm f l i)[i]? = some a := by
  have hi := (List.getElem?_eq_some_iff.1 h).1
  have h1 : ((l.take i).map f).length = i := by rw [List.length_map, List.length_take]; omega
  rw [prm, List.getElem?_append_right (by omega), h1, Nat.sub_self, List.getElem?_drop]; exact h
theorem prm_step (h : l[i]? = some a) : (prm f l i).set i (f a) = prm f l (i + 1) := by
  obtain ⟨hi, rfl⟩ := List.getElem?_eq_some_iff.1 h
  have h1 : ((l.take i).map f).length = i := by rw [List.length_map, List.length_take]; omega
  rw [prm, prm, List.set_append_right i _ (by omega), h1, Nat.sub_self, List.drop_eq_getElem_cons hi, List.set_cons_zero, List.take_succ_eq_append_getElem hi, List.map_append, List.append_assoc]
  rfl
end
section
variable {r : Int} {a : Arc}
theorem wot00 (h1 : ¬ a.loBy = r) (h2 : ¬ a.hiBy = r) : wot1 r a = a := by rw [wot1, wotLo, if_neg h1, wotHi, if_neg h2]
theorem wot10 (h1 : a.loBy = r) (h2 : ¬ a.hiBy = r) : wot1 r a = ⟨a.src, a.dst, 0, a.hi, 0, a.hiBy⟩ := by rw [wot1, wotLo, if_pos h1, wotHi, if_neg h2]
theorem wot01 (h1 : ¬ a.loBy = r) (h2 : a.hiBy = r) : wot1 r a = ⟨a.src, a.dst, a.lo, 1000000, a.loBy, 0⟩ := by rw [wot1, wotLo, if_neg h1, wotHi, if_pos h2]
theorem wot11 (h1 : a.loBy = r) (h2 : a.hiBy = r) : wot1 r a = ⟨a.src, a.dst, 0, 1000000, 0, 0⟩ := by rw [wot1, wotLo, if_pos h1, wotHi, if_pos h2]
end

/-! ### joined -/

def joinE (N : Int) (arcs : List Arc) (M : Int) (brcs : List Arc) : Int :=
  if chk N arcs ≠ 0 then chk N arcs else if chk M brcs ≠ 0 then chk M brcs else if N ≠ M then 1 else if 4000 < (arcs.length : Int) + brcs.length then 2 else 0

/-! ### through -/

def inb2 (arcs : List Arc) (i : Nat) (k : Int) : Bool := match arcs[i]? with | some a => decide (a.lo ≤ k ∧ k ≤ a.hi) | none => false
/-- The net in which an arc has one amount alone. -/
def fix (arcs : List Arc) (i : Nat) (k : Int) : List Arc := match arcs[i]? with | some a => arcs.set i ⟨a.src, a.dst, k, k, a.loBy, a.hiBy⟩ | none => arcs
/-- What Through answers. -/
inductive ThR (N : Int) (arcs : List Arc) (i k : Int) : List Int → Bool → Int → Prop
  | bad : aski N arcs i ≠ 0 → ThR N arcs i k [] false (aski N arcs i)
  | out : aski N arcs i = 0 → inb2 arcs i.toNat k = false → ThR N arcs i k [] false 0
  | no : aski N arcs i = 0 → inb2 arcs i.toNat k = true → NoC N (fix arcs i.toNat k) → ThR N arcs i k [] false 0
  | yes {x : List Int} : aski N arcs i = 0 → inb2 arcs i.toNat k = true → Circ (fix arcs i.toNat k) x → ThR N arcs i k x true 0
theorem fix_valid {N : Int} {arcs : List Arc} {i : Nat} {k : Int} (hV : Valid N arcs) (hk : inb2 arcs i k = true) : Valid N (fix arcs i k) := by
  unfold fix
  unfold inb2 at hk
  cases ha : arcs[i]? with
  | none => rw [ha] at hk; exact hV
  | some a =>
    rw [ha] at hk
    have hk : a.lo ≤ k ∧ k ≤ a.hi := by simpa using hk
    have hok := hV.at ha
    refine ⟨hV.pos, hV.max, by rw [List.length_set]; exact hV.len, fun b hb => ?_⟩
    rcases List.mem_or_eq_of_mem_set hb with h | h
    · exact hV.ok b h
    · subst h; rw [okArc_iff]; simp only; omega
theorem ThR.of {N : Int} {arcs : List Arc} {i k : Int} {x : List Int} {e : Int} (h0 : aski N arcs i = 0) (hk : inb2 arcs i.toNat k = true) (h : SomeR N (fix arcs i.toNat k) x e) : ThR N arcs i k x (decide (e = 0)) 0 := by
  cases h with
  | bad hb => exact absurd (chk_zero.2 (fix_valid (aski_zero.1 h0).1 hk)) hb
  | no _ hn => exact .no h0 hk hn
  | yes _ hc => exact .yes h0 hk hc
end Go.Vk.Flow

/- Nets, as plain mathematics, part 7: the chapter's example. No program in sight. -/
namespace Go.Vk.Flow
open Go

theorem sorted_eq : ∀ (s t : List Int), s.Pairwise (· < ·) → t.Pairwise (· < ·) → (∀ x, x ∈ s ↔ x ∈ t) → s = t := by
  intro s
  induction s with
  | nil =>
    intro t _ _ h
    cases t with
    | nil => rfl
    | cons a t => exact absurd ((h a).2 (List.mem_cons_self ..)) (by simp)
  | cons a s ih =>
    intro t hs ht h
    cases t with
    | nil => exact absurd ((h a).1 (List.mem_cons_self ..)) (by simp)
    | cons b t =>
      obtain ⟨hs1, hs2⟩ := List.pairwise_cons.1 hs
      obtain ⟨ht1, ht2⟩ := List.pairwise_cons.1 ht
      have e : a = b := by
        have h1 := (h a).1 (List.mem_cons_self ..)
        have h2 := (h b).2 (List.mem_cons_self ..)
        rcases List.mem_cons.1 h1 with h1 | h1
        · exact h1
        · rcases List.mem_cons.1 h2 with h2 | h2
          · exact h2.symm
          · have := ht1 a h1; have := hs1 b h2; omega
      subst e
      rw [ih t hs2 ht2 fun x => ?_]
      constructor
      · intro hx
        rcases List.mem_cons.1 ((h x).1 (List.mem_cons_of_mem _ hx)) with h1 | h1
        · have := hs1 x hx; omega
        · exact h1
      · intro hx
        rcases List.mem_cons.1 ((h x).2 (List.mem_cons_of_mem _ hx)) with h1 | h1
        · have := ht1 x hx; omega
        · exact h1
theorem lst_eq {l t : List Int} (ht : t.Pairwise (· < ·)) (h : ∀ x, x ∈ t ↔ x ∈ l ∧ x ≠ 0) : lst l = t :=
  sorted_eq _ _ (lst_sorted l) ht fun x => by rw [mem_lst, h]

def netA : List Arc := [⟨0, 1, 2, 5, 1, 2⟩, ⟨1, 2, 0, 4, 0, 3⟩, ⟨2, 0, 0, 9, 0, 0⟩, ⟨1, 0, 0, 3, 0, 4⟩]
def netB : List Arc := [⟨0, 1, 2, 5, 1, 2⟩, ⟨1, 2, 0, 0, 0, 7⟩, ⟨2, 0, 0, 9, 0, 0⟩, ⟨1, 0, 0, 3, 0, 4⟩]
def netC : List Arc := [⟨0, 1, 2, 5, 1, 2⟩, ⟨1, 2, 0, 0, 0, 7⟩, ⟨2, 0, 0, 9, 0, 0⟩, ⟨1, 0, 0, 1, 0, 8⟩]
theorem chkA : chk 3 netA = 0 := by decide
theorem chkC : chk 3 netC = 0 := by decide
theorem validA : Valid 3 netA := chk_zero.1 chkA
theorem validC : Valid 3 netC := chk_zero.1 chkC
theorem kept3 (x : List Int) : kept 1000 netA x = kept 3 netA x := kept_big (N := 3) validA.ok (by decide)
theorem netK1 : (decide (askd 3 netA (row [3, 2, 2, 1] netA.length 0 1000000) = 0) && kept 1000 netA [3, 2, 2, 1]) = true := by rw [kept3]; decide
theorem netK2 : (decide (askd 3 netA (row [1, 1, 1, 0] netA.length 0 1000000) = 0) && kept 1000 netA [1, 1, 1, 0]) = false := by rw [kept3]; decide
theorem netE1 : askd 3 netA (row [3, 2, 2, 1] netA.length 0 1000000) = 0 := by decide
theorem netE2 : askd 3 netA (row [1, 1, 1, 0] netA.length 0 1000000) = 0 := by decide

/-- The example's circulations, by their four amounts. -/
theorem circA {x : List Int} (h : Circ netA x) : ∃ a b c d, x = [a, b, c, d] ∧ 2 ≤ a ∧ a ≤ 5 ∧ 0 ≤ b ∧ b ≤ 4 ∧ 0 ≤ c ∧ c ≤ 9 ∧ 0 ≤ d ∧ d ≤ 3 ∧ a = b + d ∧ b = c := by
  obtain ⟨⟨hl, hb⟩, hz⟩ := h
  match x, hl with
  | [a, b, c, d], _ =>
    have h0 := hb 0 _ a rfl rfl
    have h1 := hb 1 _ b rfl rfl
    have h2 := hb 2 _ c rfl rfl
    have h3 := hb 3 _ d rfl rfl
    have z0 := hz 0
    have z1 := hz 1
    have z2 := hz 2
    simp [ex, netA] at h0 h1 h2 h3 z0 z1 z2
    exact ⟨a, b, c, d, rfl, by omega⟩
theorem circA_of {a b c d : Int} (h : 2 ≤ a ∧ a ≤ 5 ∧ 0 ≤ b ∧ b ≤ 4 ∧ 0 ≤ c ∧ c ≤ 9 ∧ 0 ≤ d ∧ d ≤ 3 ∧ a = b + d ∧ b = c) : Circ netA [a, b, c, d] := by
  refine ⟨⟨rfl, fun i p y hp hy => ?_⟩, fun v => ?_⟩
  · match i with
    | 0 => simp [netA] at hp hy; subst hp; subst hy; simp; omega
    | 1 => simp [netA] at hp hy; subst hp; subst hy; simp; omega
    | 2 => simp [netA] at hp hy; subst hp; subst hy; simp; omega
    | 3 => simp [netA] at hp hy; subst hp; subst hy; simp; omega
    | i + 4 => simp [netA] at hp
  · simp only [ex, netA]
    match v with
    | 0 => simp; omega
    | 1 => simp; omega
    | 2 => simp; omega
    | v + 3 =>
      have e0 : ¬ (0 : Int) = (v : Int) + 3 := by omega
      have e1 : ¬ (1 : Int) = (v : Int) + 3 := by omega
      have e2 : ¬ (2 : Int) = (v : Int) + 3 := by omega
      simp [e0, e1, e2]
theorem dot4 (p q r s a b c d : Int) : dot [p, q, r, s] [a, b, c, d] = p * a + (q * b + (r * c + (s * d + 0))) := rfl
theorem not_noA : ¬ NoC 3 netA := fun h => h.no validA (circA_of (a := 4) (b := 4) (c := 4) (d := 0) (by decide))

theorem netR {lo hi e : Int} (h : RaR 3 netA 0 lo hi e) : lo = 2 ∧ hi = 5 ∧ e = 0 := by
  cases h with
  | bad h => exact absurd (aski_zero.2 ⟨validA, by decide, by decide⟩) h
  | no _ h => exact absurd h not_noA
  | yes _ h1 h2 =>
    obtain ⟨a, b, c, d, rfl, ha⟩ := circA h1.circ
    obtain ⟨a', b', c', d', rfl, ha'⟩ := circA h2.circ
    have m1 := h1.max validA rfl (circA_of (a := 2) (b := 2) (c := 2) (d := 0) (by decide))
    have m2 := h2.max validA rfl (circA_of (a := 5) (b := 4) (c := 4) (d := 1) (by decide))
    have u1 : unit netA.length (Int.toNat 0) (-1) = [-1, 0, 0, 0] := rfl
    have u2 : unit netA.length (Int.toNat 0) 1 = [1, 0, 0, 0] := rfl
    rw [u1, dot4, dot4] at m1
    rw [u2, dot4, dot4] at m2
    have n1 : nth [a, b, c, d] (Int.toNat 0) = a := rfl
    have n2 : nth [a', b', c', d'] (Int.toNat 0) = a' := rfl
    rw [n1, n2]
    omega
theorem netG1 {n e : Int} {x p : List Int} (h : GrR 3 netA [1, 0, 1, 0] n x p e) : n = 9 ∧ e = 0 ∧ x.length = 4 ∧ x[0]? = some 5 ∧ p.length = 3 := by
  cases h with
  | bad h => exact absurd (by decide) h
  | no _ _ h => exact absurd h not_noA
  | yes _ _ h1 =>
    have hp := h1.pts.len
    obtain ⟨a, b, c, d, rfl, ha⟩ := circA h1.circ
    have m1 := h1.max validA rfl (circA_of (a := 5) (b := 4) (c := 4) (d := 1) (by decide))
    rw [dot4, dot4] at m1
    rw [dot4]
    refine ⟨by omega, rfl, rfl, ?_, by omega⟩
    have : a = 5 := by omega
    rw [this]; rfl
theorem netB1 : (if askd 3 netA (row [0, 0, 1, 0] netA.length (-1000) 1000 && row [0, 0, -1] 3 (-10000000) 10000000) = 0 then bnd [0, 0, -1] netA [0, 0, 1, 0] else 0) = 4 := by decide
theorem netB2 : askd 3 netA (row [0, 0, 1, 0] netA.length (-1000) 1000 && row [0, 0, -1] 3 (-10000000) 10000000) = 0 := by decide
theorem netG2 {n e : Int} {x q : List Int} (h : GrR 3 netA [0, 0, 1, 0] n x q e) : e = 0 ∧ q.length = 3 ∧ askd 3 netA (row [0, 0, 1, 0] netA.length (-1000) 1000 && row q 3 (-10000000) 10000000) = 0 ∧ lst (recs (told q netA [0, 0, 1, 0])) = [3] := by
  cases h with
  | bad h => exact absurd (by decide) h
  | no _ _ h => exact absurd h not_noA
  | yes _ hw h1 =>
    have hp := h1.pts
    refine ⟨rfl, by have := hp.len; omega, askd_zero.2 ⟨validA, ?_⟩, ?_⟩
    · rw [Bool.and_eq_true]; exact ⟨row_wts.2 hw, row_pts.2 hp⟩
    · have s1 := h1.other validA rfl (circA_of (a := 4) (b := 4) (c := 4) (d := 0) (by decide)) (by
        obtain ⟨a, b, c, d, rfl, ha⟩ := circA h1.circ
        rw [dot4, dot4]; omega)
      have s2 := h1.other validA rfl (circA_of (a := 5) (b := 4) (c := 4) (d := 1) (by decide)) (by
        obtain ⟨a, b, c, d, rfl, ha⟩ := circA h1.circ
        rw [dot4, dot4]; omega)
      have a0 := s1 0 _ 4 0 rfl rfl rfl
      have a1 := s1 1 _ 4 0 rfl rfl rfl
      have a2 := s1 2 _ 4 1 rfl rfl rfl
      have b3 := s2 3 _ 1 0 rfl rfl rfl
      simp [rst] at a0 a1 a2 b3
      have e0 : ¬ 0 < rst q ⟨0, 1, 2, 5, 1, 2⟩ 0 := by simp only [rst]; simp; omega
      have e0' : ¬ rst q ⟨0, 1, 2, 5, 1, 2⟩ 0 < 0 := by simp only [rst]; simp; omega
      have e1 : 0 < rst q ⟨1, 2, 0, 4, 0, 3⟩ 0 := by simp only [rst]; simp; omega
      have e2 : ¬ 0 < rst q ⟨2, 0, 0, 9, 0, 0⟩ 1 := by simp only [rst]; simp; omega
      have e2' : ¬ rst q ⟨2, 0, 0, 9, 0, 0⟩ 1 < 0 := by simp only [rst]; simp; omega
      have e3 : ¬ 0 < rst q ⟨1, 0, 0, 3, 0, 4⟩ 0 := by simp only [rst]; simp; omega
      have e3' : ¬ rst q ⟨1, 0, 0, 3, 0, 4⟩ 0 < 0 := by simp only [rst]; simp; omega
      have e : told q netA [0, 0, 1, 0] = [(⟨1, 2, 0, 4, 0, 3⟩, true)] := by
        simp only [told, netA, told1_zero e0 e0', told1_pos e1, told1_zero e2 e2', told1_zero e3 e3']; rfl
      rw [e]
      exact lst_eq (by simp) fun x => by simp [recs, rec1]; omega

theorem netN1 : narE 3 netA 1 0 0 7 = 0 := by decide
theorem netN2 : narE 3 netB 3 0 1 8 = 0 := by decide
theorem netNB : nar netA (Int.toNat 1) 0 0 7 = netB := by decide
theorem netNC : nar netB (Int.toNat 3) 0 1 8 = netC := by decide

theorem asc3 {ns : List Int} (h : asc 3 (-1) ns = true) : ns = [] ∨ ns = [0] ∨ ns = [1] ∨ ns = [2] ∨ ns = [0, 1] ∨ ns = [0, 2] ∨ ns = [1, 2] ∨ ns = [0, 1, 2] := by
  match ns with
  | [] => simp
  | [a] =>
    simp [asc] at h
    have : a = 0 ∨ a = 1 ∨ a = 2 := by omega
    rcases this with rfl | rfl | rfl <;> simp
  | [a, b] =>
    simp [asc] at h
    have : (a = 0 ∧ b = 1) ∨ (a = 0 ∧ b = 2) ∨ (a = 1 ∧ b = 2) := by omega
    rcases this with ⟨rfl, rfl⟩ | ⟨rfl, rfl⟩ | ⟨rfl, rfl⟩ <;> simp
  | [a, b, c] =>
    simp [asc] at h
    have : a = 0 ∧ b = 1 ∧ c = 2 := by omega
    obtain ⟨rfl, rfl, rfl⟩ := this
    simp
  | a :: b :: c :: d :: l =>
    simp [asc] at h
    omega
theorem netO {A e : Int} {ns : List Int} {is : Bool} (h : ObsR 3 netC A ns is e) : A = -1 ∧ ns = [0, 2] ∧ is = true ∧ e = 0 := by
  cases h with
  | bad h => exact absurd chkC h
  | yes _ h => exact (hind_no (A := -1) (ns := [0, 2]) validC (by decide) h).elim
  | no _ h =>
    by_cases hA : 0 ≤ A
    · obtain ⟨a, ha, hlt⟩ := hind_bad h hA
      have hm := List.mem_of_getElem? ha
      simp only [netC, List.mem_cons, List.not_mem_nil, or_false] at hm
      rcases hm with rfl | rfl | rfl | rfl <;> simp at hlt
    · obtain ⟨rfl, h1, h2⟩ := hind_cut h hA
      rcases asc3 h1 with rfl | rfl | rfl | rfl | rfl | rfl | rfl | rfl
      · exact absurd h2 (by decide)
      · exact absurd h2 (by decide)
      · exact absurd h2 (by decide)
      · exact absurd h2 (by decide)
      · exact absurd h2 (by decide)
      · exact ⟨rfl, rfl, rfl, rfl⟩
      · exact absurd h2 (by decide)
      · exact absurd h2 (by decide)
theorem netO1 : askd 3 netC (hind 3 netC (-1) [0, 2]) = 0 := by decide
theorem netO2 : orec netC (-1) [0, 2] = [1, 7, 8] := by
  rw [orec, if_neg (by decide)]
  refine lst_eq (by simp) fun x => ?_
  have e : orecs (cutl [0, 2] netC) = [1, 7, 8] := by decide
  rw [e]; simp; omega
end Go.Vk.Flow

/- The proof engine, part 18: what is no longer needed is forgotten. Generic over the program. -/
namespace Go.Vk
open Go
section
variable {P : Program} {b : Frame} {cs : List Frame} {fin : Machine → Prop} {n : Nat} {k : List Item} {ρ : Env} {ds : List Deferred} {w : World}
/-- Of the slots these alone are known from here on. -/
theorem r_forget (sl : List (Nat × Value)) (ha : Agree ρ sl) (h : ∀ ρ, Run P b cs fin n k (upds ρ sl) ds w) : Run P b cs fin n k ρ ds w := by
  have := h ρ
  rwa [upds_agree ha] at this
end
end Go.Vk

/- Nets, as plain mathematics, part 8: the laws. No program in sight. -/
namespace Go.Vk.Flow
open Go

/-- Is it a net of which the laws speak? -/
def smallB (N : Int) (n : Nat) : Bool := (decide ((n : Int) ≤ 120) && (decide (N ≤ 40) || decide (1000 < N))) || (decide (4000 < (n : Int)) && decide ((n : Int) ≤ 4010))
theorem smallB_le {N : Int} {n : Nat} (h : smallB N n = true) : n ≤ 4010 := by
  simp [smallB] at h; omega

/-! ### nets with the same ends -/

def Ends (a b : List Arc) : Prop := b.length = a.length ∧ ∀ (i : Nat) (x y : Arc), a[i]? = some x → b[i]? = some y → y.src = x.src ∧ y.dst = x.dst
theorem ex_ends : ∀ (a b : List Arc) (ys : List Int), Ends a b → ∀ v, ex b ys v = ex a ys v := by
  intro a
  induction a with
  | nil => intro b ys h v; cases b with
    | nil => rfl
    | cons => simp [Ends] at h
  | cons x a ih =>
    intro b ys h v
    cases b with
    | nil => simp [Ends] at h
    | cons y b =>
      cases ys with
      | nil => simp [ex]
      | cons z ys =>
        have h0 := h.2 0 x y rfl rfl
        have h1 : Ends a b := ⟨by simpa using h.1, fun i p q hp hq => h.2 (i + 1) p q (by simpa using hp) (by simpa using hq)⟩
        simp only [ex, ih b ys h1 v, h0.1, h0.2]

/-- The second net is no wider. -/
def Nrw (a b : List Arc) : Prop := b.length = a.length ∧ ∀ (i : Nat) (x y : Arc), a[i]? = some x → b[i]? = some y → (y.src = x.src ∧ y.dst = x.dst) ∧ x.lo ≤ y.lo ∧ y.hi ≤ x.hi
theorem Nrw.ends {a b : List Arc} (h : Nrw a b) : Ends a b := ⟨h.1, fun i x y hx hy => (h.2 i x y hx hy).1⟩
theorem Nrw.circ {a b : List Arc} {x : List Int} (h : Nrw a b) (hc : Circ b x) : Circ a x := by
  refine ⟨⟨hc.bds.1.trans h.1, fun i p y hp hy => ?_⟩, fun v => by rw [← ex_ends a b x h.ends v]; exact hc.zero v⟩
  obtain ⟨q, hq⟩ : ∃ q, b[i]? = some q := ⟨_, List.getElem?_eq_getElem (by rw [h.1]; exact (List.getElem?_eq_some_iff.1 hp).1)⟩
  have h1 := h.2 i p q hp hq
  have h2 := hc.bds.2 i q y hq hy
  omega

/-! ### narrowed nets -/
section
variable {N : Int} {arcs : List Arc} {i lo hi r : Int}
theorem nar1_nrw (a : Arc) (lo hi r : Int) : ((nar1 a lo hi r).src = a.src ∧ (nar1 a lo hi r).dst = a.dst) ∧ a.lo ≤ (nar1 a lo hi r).lo ∧ (nar1 a lo hi r).hi ≤ a.hi := by
  unfold nar1 narHi narLo
  split <;> rename_i h1 <;> split <;> rename_i h2 <;> simp at * <;> omega
theorem nar_nrw (arcs : List Arc) (j : Nat) (lo hi r : Int) : Nrw arcs (nar arcs j lo hi r) := by
  unfold nar
  cases ha : arcs[j]? with
  | none => exact ⟨rfl, fun k x y hx hy => by simp only at hy; rw [hx] at hy; cases hy; exact ⟨⟨rfl, rfl⟩, Int.le_refl _, Int.le_refl _⟩⟩
  | some a =>
    refine ⟨List.length_set .., fun k x y hx hy => ?_⟩
    simp only at hy
    rw [List.getElem?_set] at hy
    split at hy
    · rename_i e
      subst e
      rw [ha] at hx
      cases hx
      split at hy
      · cases hy; exact nar1_nrw ..
      · cases hy
    · rw [hx] at hy; cases hy; exact ⟨⟨rfl, rfl⟩, Int.le_refl _, Int.le_refl _⟩
theorem nar_valid (h : narE N arcs i lo hi r = 0) : Valid N (nar arcs i.toNat lo hi r) := by
  obtain ⟨hV, hi0, hl, hh, hr⟩ := narE_zero.1 h
  unfold nar
  cases ha : arcs[i.toNat]? with
  | none => exact hV
  | some a =>
    have hok := hV.at ha
    refine ⟨hV.pos, hV.max, by rw [List.length_set]; exact hV.len, fun b hb => ?_⟩
    rcases List.mem_or_eq_of_mem_set hb with h1 | h1
    · exact hV.ok b h1
    · subst h1
      rw [okArc_iff]
      unfold nar1 narHi narLo
      split <;> rename_i h1 <;> split <;> rename_i h2 <;> simp at * <;> omega
theorem nar_len : (nar arcs i.toNat lo hi r).length = arcs.length := (nar_nrw arcs i.toNat lo hi r).1
theorem askd_valid {arcs : List Arc} (hV : Valid N arcs) (p : Bool) : askd N arcs p = if p = true then 0 else 1 := by rw [askd, if_neg (fun h => h (chk_zero.2 hV))]
theorem nar_askd (h : narE N arcs i lo hi r = 0) (x : List Int) : askd N (nar arcs i.toNat lo hi r) (row x (nar arcs i.toNat lo hi r).length 0 1000000) = askd N arcs (row x arcs.length 0 1000000) := by
  rw [askd_valid (nar_valid h), askd_valid (narE_zero.1 h).1, nar_len]
theorem keptE {N : Int} {arcs : List Arc} {x : List Int} : (decide (askd N arcs (row x arcs.length 0 1000000) = 0) && kept 1000 arcs x) = true ↔ Valid N arcs ∧ Circ arcs x := by
  rw [Bool.and_eq_true, decide_eq_true_eq, askd_zero]
  constructor
  · rintro ⟨⟨hV, hr⟩, hk⟩
    exact ⟨hV, (kept_iff hV (row_amts.1 hr).len).1 hk⟩
  · rintro ⟨hV, hc⟩
    exact ⟨⟨hV, row_amts.2 (hc.amts hV)⟩, (kept_iff hV hc.bds.1).2 hc⟩
theorem nar_kept (h : narE N arcs i lo hi r = 0) {x : List Int} (hk : (decide (askd N (nar arcs i.toNat lo hi r) (row x (nar arcs i.toNat lo hi r).length 0 1000000) = 0) && kept 1000 (nar arcs i.toNat lo hi r) x) = true) :
    (decide (askd N arcs (row x arcs.length 0 1000000) = 0) && kept 1000 arcs x) = true :=
  keptE.2 ⟨(narE_zero.1 h).1, (nar_nrw ..).circ (keptE.1 hk).2⟩
/-- A net no wider has no greater sum. -/
theorem GrR.narrow {a b : List Arc} {wl x p y q : List Int} {n m j k : Int} (hn : Nrw a b) (hV : Valid N a) (h1 : GrR N a wl n x p j) (h2 : GrR N b wl m y q k) (hk : k = 0) : j = 0 ∧ m ≤ n := by
  cases h2 with
  | bad h => exact absurd hk h
  | no => exact absurd hk (by decide)
  | yes _ hw2 ho2 =>
    have hw : Wts a wl := ⟨hw2.len.trans hn.1, hw2.bd⟩
    have hc := hn.circ ho2.circ
    cases h1 with
    | bad h => exact absurd (askw_zero.2 ⟨hV, hw⟩) h
    | no _ _ h => exact (h.no hV hc).elim
    | yes _ _ ho1 => exact ⟨rfl, ho1.max hV hw.len hc⟩
theorem RaR.narrow {a b : List Arc} {o c d c' d' q r : Int} (hn : Nrw a b) (hV : Valid N a) (h1 : RaR N a o c d q) (h2 : RaR N b o c' d' r) (hr : r = 0) : q = 0 ∧ c ≤ c' ∧ d' ≤ d := by
  cases h2 with
  | bad h => exact absurd hr h
  | no => exact absurd hr (by decide)
  | yes h0 o1 o2 =>
    have hb := aski_zero.1 h0
    have h3 : aski N a o = 0 := aski_zero.2 ⟨hV, hb.2.1, by have := hb.2.2; have := hn.1; omega⟩
    have c1 := hn.circ o1.circ
    have c2 := hn.circ o2.circ
    have hl : o.toNat < a.length := by have := hb.2.2; have := hn.1; omega
    cases h1 with
    | bad h => exact absurd h3 h
    | no _ h => exact (h.no hV c1).elim
    | yes _ p1 p2 =>
      have m1 := p1.max hV (unit_length ..) c1
      have m2 := p2.max hV (unit_length ..) c2
      rw [p1.unit_eq hl, dot_unit _ _ _ hl (nth_get (by rw [c1.bds.1]; exact hl))] at m1
      rw [p2.unit_eq hl, dot_unit _ _ _ hl (nth_get (by rw [c2.bds.1]; exact hl))] at m2
      exact ⟨rfl, by omega, by omega⟩
end
end Go.Vk.Flow

/- Nets, as plain mathematics, part 9: the laws, continued. No program in sight. -/
namespace Go.Vk.Flow
open Go

def Amtb (arcs : List Arc) (x : List Int) : Bool := row x arcs.length 0 1000000
def Wtb (arcs : List Arc) (x : List Int) : Bool := row x arcs.length (-1000) 1000
def Ptb (N : Int) (x : List Int) : Bool := row x N (-10000000) 10000000
theorem amtb {arcs : List Arc} {x : List Int} : Amtb arcs x = true ↔ Amts arcs x := row_amts
theorem wtb {arcs : List Arc} {x : List Int} : Wtb arcs x = true ↔ Wts arcs x := row_wts
theorem ptb {N : Int} {x : List Int} : Ptb N x = true ↔ Pts N x := row_pts

/-- What Kept answers. -/
def KeptR (N : Int) (arcs : List Arc) (x : List Int) (k : Bool) (e : Int) : Prop := e = askd N arcs (Amtb arcs x) ∧ (k = true ↔ Valid N arcs ∧ Circ arcs x)
def SumR (N : Int) (arcs : List Arc) (w x : List Int) (s e : Int) : Prop := e = askd N arcs (Wtb arcs w && Amtb arcs x) ∧ s = if e = 0 then dot w x else 0
def BoundR (N : Int) (arcs : List Arc) (w p : List Int) (b e : Int) : Prop := e = askd N arcs (Wtb arcs w && Ptb N p) ∧ b = if e = 0 then bnd p arcs w else 0
def BestR (N : Int) (arcs : List Arc) (w x p : List Int) (k : Bool) (e : Int) : Prop := e = askd N arcs (Wtb arcs w && Amtb arcs x && Ptb N p) ∧ (k = true ↔ e = 0 ∧ Circ arcs x ∧ dot w x = bnd p arcs w)
def ChkOR (N : Int) (arcs : List Arc) (A : Int) (ns : List Int) (k : Bool) (e : Int) : Prop := e = chk N arcs ∧ k = (decide (e = 0) && hind N arcs A ns)

section
variable {N : Int} {arcs : List Arc} {w x p : List Int}
theorem KeptR.of : KeptR N arcs x (decide (askd N arcs (Amtb arcs x) = 0) && kept 1000 arcs x) (askd N arcs (Amtb arcs x)) := ⟨rfl, keptE⟩
theorem SumR.of : SumR N arcs w x (if askd N arcs (Wtb arcs w && Amtb arcs x) = 0 then dot w x else 0) (askd N arcs (Wtb arcs w && Amtb arcs x)) := ⟨rfl, rfl⟩
theorem BoundR.of : BoundR N arcs w p (if askd N arcs (Wtb arcs w && Ptb N p) = 0 then bnd p arcs w else 0) (askd N arcs (Wtb arcs w && Ptb N p)) := ⟨rfl, rfl⟩
theorem BestR.of : BestR N arcs w x p (decide (askd N arcs (Wtb arcs w && Amtb arcs x && Ptb N p) = 0) && (kept 1000 arcs x && decide (dot w x = bnd p arcs w))) (askd N arcs (Wtb arcs w && Amtb arcs x && Ptb N p)) := by
  refine ⟨rfl, ?_⟩
  rw [Bool.and_eq_true, Bool.and_eq_true, decide_eq_true_eq, decide_eq_true_eq]
  constructor
  · rintro ⟨h1, h2, h3⟩
    obtain ⟨hV, hp⟩ := askd_zero.1 h1
    rw [Bool.and_eq_true, Bool.and_eq_true] at hp
    exact ⟨h1, (kept_iff hV (amtb.1 hp.1.2).len).1 h2, h3⟩
  · rintro ⟨h1, h2, h3⟩
    exact ⟨h1, (kept_iff (askd_zero.1 h1).1 h2.bds.1).2 h2, h3⟩
theorem ChkOR.of {A : Int} {ns : List Int} : ChkOR N arcs A ns (decide (chk N arcs = 0) && hind N arcs A ns) (chk N arcs) := ⟨rfl, rfl⟩

theorem GrR.ok {n e : Int} {y q : List Int} (h : GrR N arcs w n y q e) (hV : Valid N arcs) (hw : Wts arcs w) (hx : Circ arcs x) : e = 0 ∧ dot w x ≤ n ∧ ∃ z, Circ arcs z ∧ n = dot w z := by
  cases h with
  | bad h => exact absurd (askw_zero.2 ⟨hV, hw⟩) h
  | no _ _ h => exact (h.no hV hx).elim
  | yes _ _ h => exact ⟨rfl, h.max hV hw.len hx, _, h.circ, rfl⟩
theorem dot_neg : ∀ (w x : List Int), dot (w.map (- ·)) x = -(dot w x) := by
  intro w
  induction w with
  | nil => intro x; simp [dot]
  | cons a w ih =>
    intro x
    cases x with
    | nil => simp [dot]
    | cons b x => simp only [List.map_cons, dot, ih, Int.neg_mul]; omega

/-- The law of proofs. -/
theorem proves {k best : Bool} {e s f b h i n j m kk : Int} {y q y' q' : List Int} (h1 : KeptR N arcs x k e) (h2 : SumR N arcs w x s f) (h3 : BoundR N arcs w p b h) (h4 : BestR N arcs w x p best i) (h5 : GrR N arcs w n y q j)
    (h6 : GrR N arcs (w.map (- ·)) (-m) y' q' kk) (hf : f = 0) (hk : k = true) :
    j = 0 ∧ kk = 0 ∧ s ≤ n ∧ m ≤ s ∧ h = i ∧ (h = 0 → s ≤ b ∧ n ≤ b ∧ (best = true ↔ s = b)) ∧ (best = true → s = n) := by
  obtain ⟨hV, hc⟩ := h1.2.1 hk
  obtain ⟨f1, s1⟩ := h2
  rw [hf, if_pos rfl] at s1
  rw [hf] at f1
  have hwx := (askd_zero.1 f1.symm).2
  rw [Bool.and_eq_true] at hwx
  have hw := wtb.1 hwx.1
  obtain ⟨j1, j2, z, j3, j4⟩ := h5.ok hV hw hc
  obtain ⟨k1, k2, _⟩ := h6.ok hV (neg_wts hw) hc
  rw [dot_neg] at k2
  have hhi : h = i := by
    rw [h3.1, h4.1, hwx.1, hwx.2]
    rfl
  refine ⟨j1, k1, by omega, by omega, hhi, fun h0 => ?_, fun hb => ?_⟩
  · obtain ⟨_, b1⟩ := h3
    rw [h0, if_pos rfl] at b1
    have d1 := dual hV hc hw.len p
    have d2 := dual hV j3 hw.len p
    refine ⟨by omega, by omega, ?_⟩
    rw [h4.2, ← hhi, b1, s1]
    exact ⟨fun h => h.2.2, fun h => ⟨h0, hc, h⟩⟩
  · obtain ⟨_, _, b3⟩ := h4.2.1 hb
    have d2 := dual hV j3 hw.len p
    omega
theorem provesT {k : Bool} {e s f b h i n j m kk : Int} {y q y' q' : List Int} (h1 : KeptR N arcs x k e) (h2 : SumR N arcs w x s f) (h3 : BoundR N arcs w p b h) (h4 : BestR N arcs w x p true i) (h5 : GrR N arcs w n y q j)
    (h6 : GrR N arcs (w.map (- ·)) (-m) y' q' kk) (hf : f = 0) (hk : k = true) :
    j = 0 ∧ kk = 0 ∧ s ≤ n ∧ m ≤ s ∧ h = i ∧ (h = 0 → s ≤ b ∧ n ≤ b ∧ s = b) ∧ s = n := by
  obtain ⟨a1, a2, a3, a4, a5, a6, a7⟩ := proves h1 h2 h3 h4 h5 h6 hf hk
  exact ⟨a1, a2, a3, a4, a5, fun h => ⟨(a6 h).1, (a6 h).2.1, (a6 h).2.2.1 rfl⟩, a7 rfl⟩
theorem provesF {k : Bool} {e s f b h i n j m kk : Int} {y q y' q' : List Int} (h1 : KeptR N arcs x k e) (h2 : SumR N arcs w x s f) (h3 : BoundR N arcs w p b h) (h4 : BestR N arcs w x p false i) (h5 : GrR N arcs w n y q j)
    (h6 : GrR N arcs (w.map (- ·)) (-m) y' q' kk) (hf : f = 0) (hk : k = true) :
    j = 0 ∧ kk = 0 ∧ s ≤ n ∧ m ≤ s ∧ h = i ∧ (h = 0 → s ≤ b ∧ n ≤ b ∧ ¬ s = b) := by
  obtain ⟨a1, a2, a3, a4, a5, a6, a7⟩ := proves h1 h2 h3 h4 h5 h6 hf hk
  exact ⟨a1, a2, a3, a4, a5, fun h => ⟨(a6 h).1, (a6 h).2.1, fun e => absurd ((a6 h).2.2.2 e) (by decide)⟩⟩
end

/-! ### memory -/
theorem GrR.same {N : Int} {arcs : List Arc} {w x y p q : List Int} {n m e f : Int} (h1 : GrR N arcs w n x p e) (h2 : GrR N arcs w m y q f) : n = m ∧ e = f := by
  cases h1 with
  | bad g1 =>
    cases h2 with
    | bad => exact ⟨rfl, rfl⟩
    | no hV hw _ => exact absurd (askw_zero.2 ⟨hV, hw⟩) g1
    | yes hV hw _ => exact absurd (askw_zero.2 ⟨hV, hw⟩) g1
  | no hV hw g1 =>
    cases h2 with
    | bad g => exact absurd (askw_zero.2 ⟨hV, hw⟩) g
    | no => exact ⟨rfl, rfl⟩
    | yes _ _ g => exact (g1.no hV g.circ).elim
  | yes hV hw g1 =>
    cases h2 with
    | bad g => exact absurd (askw_zero.2 ⟨hV, hw⟩) g
    | no _ _ g => exact (g.no hV g1.circ).elim
    | yes _ _ g =>
      have := g1.max hV hw.len g.circ
      have := g.max hV hw.len g1.circ
      exact ⟨by omega, rfl⟩
theorem nar_idle {N : Int} {arcs : List Arc} {i : Int} (h : narE N arcs i 0 1000000 1 = 0) : nar arcs i.toNat 0 1000000 1 = arcs := by
  obtain ⟨hV, hi, _⟩ := narE_zero.1 h
  obtain ⟨a, ha⟩ : ∃ a, arcs[i.toNat]? = some a := ⟨_, List.getElem?_eq_getElem (by omega)⟩
  have hok := hV.at ha
  exact (nar00 ha (by omega) (by omega)).symm
theorem GrR.len {N : Int} {arcs : List Arc} {w x p : List Int} {n e : Int} (h : GrR N arcs w n x p e) : x.length ≤ arcs.length ∧ p.length ≤ 1000 := by
  cases h with
  | bad => simp
  | no => simp
  | yes hV _ h => have := h.circ.bds.1; have := h.pts.len; have := hV.max; omega
end Go.Vk.Flow

/- Nets, as plain mathematics, part 10: what the reference does. No program in sight. -/
namespace Go.Vk.Flow
open Go

theorem chk_one {N : Int} {arcs : List Arc} {i : Nat} {a : Arc} (h1 : ¬ 1000 < N) (h2 : ¬ 4000 < arcs.length) (ha : arcs[i]? = some a) (h : okArc N a = false) : chk N arcs = 1 := by
  rw [chk, if_neg (by omega), if_pos]
  refine .inr (List.any_eq_true.2 ⟨a, List.mem_of_getElem? ha, by rw [h]; rfl⟩)
theorem chk_ok {N : Int} {arcs : List Arc} (h1 : ¬ 1000 < N) (h2 : ¬ 4000 < arcs.length) (h3 : ¬ N < 1) (h : ∀ a ∈ arcs, okArc N a = true) : chk N arcs = 0 := chk_zero.2 ⟨by omega, by omega, by omega, h⟩
theorem ok_step {N : Int} {arcs : List Arc} {i : Nat} {a : Arc} (h : ∀ b ∈ arcs.take i, okArc N b = true) (ha : arcs[i]? = some a) (hok : okArc N a = true) : ∀ b ∈ arcs.take (i + 1), okArc N b = true := by
  intro b hb
  rw [List.take_add_one, ha] at hb
  rcases List.mem_append.1 hb with h1 | h1
  · exact h b h1
  · simp at h1; subst h1; exact hok

/-- A list of so many numbers. -/
def tabL (n : Nat) (f : Nat → Int) : List Int := (List.range n).map f
theorem tabL_length (n : Nat) (f : Nat → Int) : (tabL n f).length = n := by simp [tabL]
theorem tabL_get {n i : Nat} {f : Nat → Int} (h : i < n) : (tabL n f)[i]? = some (f i) := by simp [tabL, h]
theorem tabL_set {n i : Nat} {f : Nat → Int} {x : Int} : (tabL n f).set i x = tabL n (upf f i x) := by
  apply List.ext_getElem?
  intro j
  simp only [tabL, List.getElem?_set, List.getElem?_map, List.length_map, List.length_range]
  by_cases hj : j < n
  · by_cases e : i = j
    · subst e; simp [hj, upf]
    · simp [e, hj, upf, Ne.symm e]
  · by_cases e : i = j
    · subst e; simp [hj]
    · simp [e, hj]
theorem tabL_zero (n : Nat) : tabL n (fun _ => 0) = List.replicate n 0 := by simp [tabL, List.map_const']
theorem ex_step2 {as : List Arc} {ys : List Int} {i : Nat} {a : Arc} {y : Int} (ha : as[i]? = some a) (hy : ys[i]? = some y) (hd : 0 ≤ a.dst) (hs : 0 ≤ a.src) {f : Nat → Int} (hf : f = ex (as.take i) (ys.take i)) :
    upf (upf f a.src.toNat (f a.src.toNat - y)) a.dst.toNat (upf f a.src.toNat (f a.src.toNat - y) a.dst.toNat + y) = ex (as.take (i + 1)) (ys.take (i + 1)) := by
  rw [← ex_step ha hy hd hs hf]
  funext v
  simp only [upf]
  by_cases c1 : v = a.dst.toNat <;> by_cases c2 : v = a.src.toNat
  · have c3 : a.src.toNat = a.dst.toNat := by omega
    simp only [c1, c3, if_true]; omega
  · have c3 : a.dst.toNat ≠ a.src.toNat := by omega
    simp only [c1, c3, if_true, if_false]
  · have c3 : a.src.toNat ≠ a.dst.toNat := by omega
    simp only [c2, c3, if_true, if_false]
  · simp only [c1, c2, if_false]
theorem row_step {l : List Int} {a b : Int} {i : Nat} {x : Int} (h : ∀ z ∈ l.take i, a ≤ z ∧ z ≤ b) (hx : l[i]? = some x) (hok : a ≤ x ∧ x ≤ b) : ∀ z ∈ l.take (i + 1), a ≤ z ∧ z ≤ b := by
  intro z hz
  rw [List.take_add_one, hx] at hz
  rcases List.mem_append.1 hz with h1 | h1
  · exact h z h1
  · simp at h1; subst h1; exact hok
theorem row_no {l : List Int} {n a b : Int} {i : Nat} {x : Int} (hx : l[i]? = some x) (hok : ¬ (a ≤ x ∧ x ≤ b)) : row l n a b = false := by
  cases h : row l n a b with
  | false => rfl
  | true => exact absurd ((row_iff.1 h).2 x (List.mem_of_getElem? hx)) hok
theorem kept_tab {N : Int} {arcs : List Arc} {x : List Int} (hV : Valid N arcs) (h1 : within arcs x = true) (h2 : ∀ v : Nat, v < N.toNat → ex arcs x v = 0) : kept 1000 arcs x = true := by
  rw [kept_big (N := N) hV.ok hV.max, kept, h1, Bool.true_and, List.all_eq_true]
  intro v hv
  rw [h2 v (List.mem_range.1 hv)]; rfl
theorem kept_bad {N : Int} {arcs : List Arc} {x : List Int} {v : Nat} (hV : Valid N arcs) (hv : v < N.toNat) (h : ¬ ex arcs x v = 0) : kept 1000 arcs x = false := by
  rw [kept_big (N := N) hV.ok hV.max, kept]
  have : ((List.range N.toNat).all fun v => ex arcs x v == 0) = false := by
    rw [List.all_eq_false]
    exact ⟨v, List.mem_range.2 hv, by simpa using h⟩
  rw [this, Bool.and_false]

/-! ### nodes in a list -/
/-- The node before place i, or -1. -/
def lastOf (ns : List Int) (i : Nat) : Int := if i = 0 then -1 else nth ns (i - 1)
theorem asc_step {N : Int} {ns : List Int} {i : Nat} {v : Int} (h : asc N (-1) ns = asc N (lastOf ns i) (ns.drop i)) (hv : ns[i]? = some v) (hok : lastOf ns i + 1 ≤ v ∧ v ≤ N - 1) : asc N (-1) ns = asc N (lastOf ns (i + 1)) (ns.drop (i + 1)) := by
  obtain ⟨hi, rfl⟩ := List.getElem?_eq_some_iff.1 hv
  rw [h, List.drop_eq_getElem_cons hi, asc, decide_eq_true hok, Bool.true_and]
  have : lastOf ns (i + 1) = ns[i] := by rw [lastOf, if_neg (by omega)]; exact nth_of (by simp [hi])
  rw [this]
theorem asc_no {N : Int} {ns : List Int} {i : Nat} {v : Int} (h : asc N (-1) ns = asc N (lastOf ns i) (ns.drop i)) (hv : ns[i]? = some v) (hok : ¬ (lastOf ns i + 1 ≤ v ∧ v ≤ N - 1)) : asc N (-1) ns = false := by
  obtain ⟨hi, rfl⟩ := List.getElem?_eq_some_iff.1 hv
  rw [h, List.drop_eq_getElem_cons hi, asc, decide_eq_false hok, Bool.false_and]
theorem lastOf_succ {ns : List Int} {i : Nat} {v : Int} (h : 0 < i) (hv : ns[i - 1]? = some v) : lastOf ns i = v := by rw [lastOf, if_neg (by omega)]; exact nth_of hv
theorem lastOf_zero {ns : List Int} {i : Nat} (h : ¬ 0 < i) : lastOf ns i = -1 := by rw [lastOf, if_pos (by omega)]
theorem lastOf_next {ns : List Int} {i : Nat} {v : Int} (hv : ns[i]? = some v) : lastOf ns (i + 1) = v := by rw [lastOf, if_neg (by omega)]; exact nth_of (by simpa using hv)
theorem csum_bd_arcs {N : Int} {arcs : List Arc} (hV : Valid N arcs) (ns : List Int) (i : Nat) : -4000000000 ≤ csum (cutl ns (arcs.take i)) ∧ csum (cutl ns (arcs.take i)) ≤ 4000000000 := by
  have h1 := cutl_len ns (arcs.take i)
  have h2 := csum_bd (cutl ns (arcs.take i)) (fun x hx => by
    obtain ⟨a, o⟩ := x
    have h3 := okArc_iff.1 (hV.ok a (List.mem_of_mem_take (mem_cutl hx)))
    cases o <;> simp only [csum1] <;> omega) _ (Nat.le_refl _)
  rw [List.take_length] at h2
  have h4 : (arcs.take i).length ≤ 4000 := by have := hV.len; rw [List.length_take]; omega
  omega
section
variable {ns : List Int} {arcs : List Arc} {i : Nat} {a : Arc}
theorem csum_out (ha : arcs[i]? = some a) (hs : decide (a.src ∈ ns) = true) (hd : decide (a.dst ∈ ns) = false) : csum (cutl ns (arcs.take (i + 1))) = csum (cutl ns (arcs.take i)) + a.lo := by
  rw [cutl_take ha, cut1, hs, hd, if_pos (by decide), csum_snoc]; rfl
theorem csum_in (ha : arcs[i]? = some a) (hs : decide (a.src ∈ ns) = false) (hd : decide (a.dst ∈ ns) = true) : csum (cutl ns (arcs.take (i + 1))) = csum (cutl ns (arcs.take i)) - a.hi := by
  rw [cutl_take ha, cut1, hs, hd, if_pos (by decide), csum_snoc]; rfl
theorem csum_same (ha : arcs[i]? = some a) {b c : Bool} (hs : decide (a.src ∈ ns) = b) (hd : decide (a.dst ∈ ns) = c) (e : b = c) : csum (cutl ns (arcs.take (i + 1))) = csum (cutl ns (arcs.take i)) := by
  rw [cutl_take ha, cut1, hs, hd, e, if_neg (by simp), List.append_nil]
end
theorem hind_asc {N : Int} {arcs : List Arc} {A : Int} {ns : List Int} (hA : ¬ 0 ≤ A) (h : asc N (-1) ns = false) : hind N arcs A ns = false := by
  cases hh : hind N arcs A ns with
  | false => rfl
  | true => obtain ⟨_, h1, _⟩ := hind_cut hh hA; rw [h] at h1; cases h1
theorem hind_low {N : Int} {arcs : List Arc} {A : Int} {ns : List Int} (hA : ¬ 0 ≤ A) (h : ¬ A = -1) : hind N arcs A ns = false := by
  cases hh : hind N arcs A ns with
  | false => rfl
  | true => exact absurd (hind_cut hh hA).1 h
end Go.Vk.Flow

/- Nets, as plain mathematics, part 11: the laws, continued. No program in sight. -/
namespace Go.Vk.Flow
open Go
section
variable {N : Int} {arcs : List Arc}

/-! ### either -/
theorem eitherT {y ns : List Int} {e A f : Int} (h1 : SomeR N arcs y e) (h2 : ObsR N arcs A ns true f) : (f = 0 ∧ e = 60 ∧ y.length = 0 ∧ chk N arcs = 0) ∧ Valid N arcs ∧ hind N arcs A ns = true := by
  cases h2 with
  | no hV hh =>
    refine ⟨?_, hV, hh⟩
    cases h1 with
    | bad h => exact absurd (chk_zero.2 hV) h
    | no => exact ⟨rfl, rfl, rfl, chk_zero.2 hV⟩
    | yes _ hc => exact (hind_no hV hh hc).elim
theorem eitherF {y ns : List Int} {e A f : Int} (h1 : SomeR N arcs y e) (h2 : ObsR N arcs A ns false f) : (¬ f = 0 → e = f ∧ f = chk N arcs ∧ y.length = 0) ∧ (f = 0 → e = 0 ∧ A = 0 ∧ ns.length = 0 ∧ chk N arcs = 0) ∧ (f = 0 → Valid N arcs ∧ Circ arcs y) := by
  cases h2 with
  | bad hb =>
    cases h1 with
    | bad h => exact ⟨fun _ => ⟨rfl, rfl, rfl⟩, fun h => absurd h hb, fun h => absurd h hb⟩
    | no hV => exact absurd (chk_zero.2 hV) hb
    | yes hV => exact absurd (chk_zero.2 hV) hb
  | yes hV hc =>
    cases h1 with
    | bad h => exact absurd (chk_zero.2 hV) h
    | no _ h => exact (h.no hV hc).elim
    | yes _ hy => exact ⟨fun h => absurd rfl h, fun _ => ⟨rfl, rfl, rfl, chk_zero.2 hV⟩, fun _ => ⟨hV, hy⟩⟩
theorem KeptR.yes {x : List Int} {k : Bool} {e : Int} (h : KeptR N arcs x k e) (hV : Valid N arcs) (hc : Circ arcs x) : k = true ∧ e = 0 := ⟨h.2.2 ⟨hV, hc⟩, by rw [h.1]; exact askd_zero.2 ⟨hV, amtb.2 (hc.amts hV)⟩⟩
theorem ChkOR.yes {A : Int} {ns : List Int} {k : Bool} {e : Int} (h : ChkOR N arcs A ns k e) (hV : Valid N arcs) (hh : hind N arcs A ns = true) : k = true ∧ e = 0 := by
  have e0 : e = 0 := by rw [h.1]; exact chk_zero.2 hV
  exact ⟨by rw [h.2, hh, decide_eq_true e0]; rfl, e0⟩
theorem ChkOR.hind {A : Int} {ns : List Int} {e : Int} (h : ChkOR N arcs A ns true e) : Flow.hind N arcs A ns = true := by
  have := h.2.symm
  rw [Bool.and_eq_true] at this
  exact this.2

/-! ### greatest and least -/
theorem bestE {wl x y p q : List Int} {n m e f : Int} (h1 : GrR N arcs wl n x p e) (h2 : GrR N arcs (wl.map (- ·)) m y q f) : e = f := by
  cases h1 with
  | bad g1 =>
    cases h2 with
    | bad => exact (askw_neg N arcs wl).symm
    | no hV hw _ => exact absurd (askw_zero.2 ⟨hV, by have := neg_wts hw; rwa [List.map_map, show ((- ·) : Int → Int) ∘ (- ·) = id from funext fun x => Int.neg_neg x, List.map_id] at this⟩) g1
    | yes hV hw _ => exact absurd (askw_zero.2 ⟨hV, by have := neg_wts hw; rwa [List.map_map, show ((- ·) : Int → Int) ∘ (- ·) = id from funext fun x => Int.neg_neg x, List.map_id] at this⟩) g1
  | no hV hw g1 =>
    cases h2 with
    | bad g => exact absurd (askw_zero.2 ⟨hV, neg_wts hw⟩) g
    | no => rfl
    | yes _ _ g => exact (g1.no hV g.circ).elim
  | yes hV hw g1 =>
    cases h2 with
    | bad g => exact absurd (askw_zero.2 ⟨hV, neg_wts hw⟩) g
    | no _ _ g => exact (g.no hV g1.circ).elim
    | yes => rfl
/-- Why there is no greatest sum. -/
theorem bestNo {wl x y p q z : List Int} {n m e f s : Int} (h1 : GrR N arcs wl n x p e) (h2 : GrR N arcs (wl.map (- ·)) (-m) y q f) (h3 : SomeR N arcs z s) (he : ¬ e = 0) :
    (n = 0 ∧ m = 0 ∧ x.length = 0 ∧ y.length = 0 ∧ p.length = 0 ∧ q.length = 0) ∧ ((¬ chk N arcs = 0 ∧ e = chk N arcs) ∨ (chk N arcs = 0 ∧ e = 1 ∧ row wl arcs.length (-1000) 1000 = false) ∨ (chk N arcs = 0 ∧ e = 60 ∧ s = 60 ∧ row wl arcs.length (-1000) 1000 = true)) := by
  have hef := bestE h1 h2
  have hz : m = 0 ∧ y.length = 0 ∧ q.length = 0 := by
    generalize hm : -m = m' at h2
    cases h2 with
    | bad => exact ⟨by omega, rfl, rfl⟩
    | no => exact ⟨by omega, rfl, rfl⟩
    | yes => exact absurd hef he
  cases h1 with
  | bad g1 =>
    refine ⟨⟨rfl, hz.1, rfl, hz.2.1, rfl, hz.2.2⟩, ?_⟩
    by_cases hc : chk N arcs = 0
    · refine .inr (.inl ?_)
      have hV := chk_zero.1 hc
      have hr : row wl arcs.length (-1000) 1000 = false := by
        cases hr : row wl arcs.length (-1000) 1000 with
        | false => rfl
        | true => exact absurd (askw_zero.2 ⟨hV, row_wts.1 hr⟩) g1
      exact ⟨hc, by rw [askw, askd_valid hV, hr]; rfl, hr⟩
    · exact .inl ⟨hc, by rw [askw, askd, if_pos hc]⟩
  | no hV hw g1 =>
    refine ⟨⟨rfl, hz.1, rfl, hz.2.1, rfl, hz.2.2⟩, .inr (.inr ⟨chk_zero.2 hV, rfl, ?_, row_wts.2 hw⟩)⟩
    cases h3 with
    | bad h => exact absurd (chk_zero.2 hV) h
    | no => rfl
    | yes _ hc => exact (g1.no hV hc).elim
  | yes => exact absurd rfl he
theorem GrR.opt {wl x p : List Int} {n e : Int} (h : GrR N arcs wl n x p e) (he : e = 0) : Valid N arcs ∧ Wts arcs wl ∧ Opt N arcs wl x p ∧ n = dot wl x := by
  cases h with
  | bad h => exact absurd he h
  | no => exact absurd he (by decide)
  | yes hV hw ho => exact ⟨hV, hw, ho, rfl⟩
theorem BestR.yes {wl x p : List Int} {k : Bool} {e : Int} (h : BestR N arcs wl x p k e) (hV : Valid N arcs) (hw : Wts arcs wl) (ho : Opt N arcs wl x p) : k = true ∧ e = 0 := by
  have e0 : e = 0 := by
    rw [h.1, askd_zero]
    refine ⟨hV, ?_⟩
    rw [Bool.and_eq_true, Bool.and_eq_true]
    exact ⟨⟨wtb.2 hw, amtb.2 (ho.circ.amts hV)⟩, ptb.2 ho.pts⟩
  exact ⟨h.2.2 ⟨e0, ho.circ, ho.eq hV hw.len⟩, e0⟩
theorem SumR.yes {wl x : List Int} {s e : Int} (h : SumR N arcs wl x s e) (hV : Valid N arcs) (hw : Wts arcs wl) (hc : Circ arcs x) : s = dot wl x ∧ e = 0 := by
  have e0 : e = 0 := by
    rw [h.1, askd_zero, Bool.and_eq_true]
    exact ⟨hV, wtb.2 hw, amtb.2 (hc.amts hV)⟩
  exact ⟨by rw [h.2, if_pos e0], e0⟩
end
theorem asc_len {N : Int} : ∀ (l : List Int) (last : Int), asc N last l = true → last < N → (l.length : Int) ≤ N - 1 - last := by
  intro l
  induction l with
  | nil => intro last _ h; simp; omega
  | cons a l ih =>
    intro last h hl
    simp only [asc, Bool.and_eq_true, decide_eq_true_eq] at h
    have := ih a h.2 (by omega)
    simp only [List.length_cons]; omega
theorem hind_len {N : Int} {arcs : List Arc} {A : Int} {ns : List Int} (hV : Valid N arcs) (h : hind N arcs A ns = true) : ns.length ≤ 1000 := by
  by_cases hA : 0 ≤ A
  · rw [hind, if_pos (by omega)] at h
    simp only [Bool.and_eq_true, decide_eq_true_eq] at h
    omega
  · obtain ⟨_, h1, _⟩ := hind_cut h hA
    have := asc_len ns (-1) h1 (by have := hV.pos; omega)
    have := hV.max
    omega
end Go.Vk.Flow

/- Nets, as plain mathematics, part 12: the laws, continued. No program in sight. -/
namespace Go.Vk.Flow
open Go
section
variable {N : Int} {arcs : List Arc}

/-! ### sharp ranges -/
theorem fix_nrw {i : Nat} {k : Int} (hk : inb2 arcs i k = true) : Nrw arcs (fix arcs i k) := by
  unfold fix
  unfold inb2 at hk
  cases ha : arcs[i]? with
  | none => exact ⟨rfl, fun j x y hx hy => by simp only at hy; rw [hx] at hy; cases hy; exact ⟨⟨rfl, rfl⟩, Int.le_refl _, Int.le_refl _⟩⟩
  | some a =>
    rw [ha] at hk
    have hk : a.lo ≤ k ∧ k ≤ a.hi := by simpa using hk
    refine ⟨List.length_set .., fun j x y hx hy => ?_⟩
    simp only at hy
    rw [List.getElem?_set] at hy
    split at hy
    · rename_i e
      subst e
      rw [ha] at hx
      cases hx
      split at hy
      · cases hy; exact ⟨⟨rfl, rfl⟩, hk.1, hk.2⟩
      · cases hy
    · rw [hx] at hy; cases hy; exact ⟨⟨rfl, rfl⟩, Int.le_refl _, Int.le_refl _⟩
theorem fix_at {i : Nat} {k : Int} {x : List Int} (hi : i < arcs.length) (hc : Circ (fix arcs i k) x) : x[i]? = some k := by
  obtain ⟨a, ha⟩ : ∃ a, arcs[i]? = some a := ⟨_, List.getElem?_eq_getElem hi⟩
  have hf : (fix arcs i k)[i]? = some ⟨a.src, a.dst, k, k, a.loBy, a.hiBy⟩ := by rw [fix, ha]; exact set_get ha
  obtain ⟨y, hy⟩ : ∃ y, x[i]? = some y := ⟨_, List.getElem?_eq_getElem (by rw [hc.bds.1]; exact (List.getElem?_eq_some_iff.1 hf).1)⟩
  have h1 := hc.bds.2 i _ y hf hy
  simp only at h1
  have : y = k := by omega
  rw [hy, this]
theorem fix_circ {i : Nat} {y : Int} {x : List Int} (hc : Circ arcs x) (hy : x[i]? = some y) : Circ (fix arcs i y) x := by
  have hi : i < arcs.length := by rw [← hc.bds.1]; exact (List.getElem?_eq_some_iff.1 hy).1
  obtain ⟨a, ha⟩ : ∃ a, arcs[i]? = some a := ⟨_, List.getElem?_eq_getElem hi⟩
  have hb := hc.bds.2 i a y ha hy
  have hk : inb2 arcs i y = true := by rw [inb2, ha]; exact decide_eq_true hb
  have hn := fix_nrw hk
  refine ⟨⟨hc.bds.1.trans hn.1.symm, fun j p z hp hz => ?_⟩, fun v => by rw [ex_ends _ _ x hn.ends v]; exact hc.zero v⟩
  by_cases e : j = i
  · subst e
    have : (fix arcs j y)[j]? = some ⟨a.src, a.dst, y, y, a.loBy, a.hiBy⟩ := by rw [fix, ha]; exact set_get ha
    rw [this] at hp
    cases hp
    rw [hy] at hz
    cases hz
    simp
  · have : (fix arcs i y)[j]? = arcs[j]? := by rw [fix, ha]; exact List.getElem?_set_ne (fun h => e h.symm)
    rw [this] at hp
    exact hc.bds.2 j p z hp hz
theorem csum_fix (ns : List Int) {i : Nat} (hi : i < arcs.length) : ∃ c s : Int, (s = 1 ∨ s = -1 ∨ s = 0) ∧ ∀ z, csum (cutl ns (fix arcs i z)) = c + s * z := by
  obtain ⟨a, ha⟩ : ∃ a, arcs[i]? = some a := ⟨_, List.getElem?_eq_getElem hi⟩
  have hs : ∀ z, cutl ns (fix arcs i z) = cutl ns (arcs.take i) ++ (cut1 ns ⟨a.src, a.dst, z, z, a.loBy, a.hiBy⟩ ++ cutl ns (arcs.drop (i + 1))) := by
    intro z
    have : fix arcs i z = arcs.take i ++ ⟨a.src, a.dst, z, z, a.loBy, a.hiBy⟩ :: arcs.drop (i + 1) := by
      rw [fix, ha]
      exact List.set_eq_take_append_cons_drop.trans (if_pos hi)
    rw [this]
    simp [cutl]
  by_cases h1 : decide (a.src ∈ ns) ≠ decide (a.dst ∈ ns)
  · by_cases h2 : a.src ∈ ns
    · refine ⟨csum (cutl ns (arcs.take i)) + csum (cutl ns (arcs.drop (i + 1))), 1, .inl rfl, fun z => ?_⟩
      rw [hs, csum_append, csum_append]
      have : cut1 ns ⟨a.src, a.dst, z, z, a.loBy, a.hiBy⟩ = [(⟨a.src, a.dst, z, z, a.loBy, a.hiBy⟩, true)] := by rw [cut1, if_pos h1, decide_eq_true h2]
      rw [this]
      simp [csum, csum1]; omega
    · refine ⟨csum (cutl ns (arcs.take i)) + csum (cutl ns (arcs.drop (i + 1))), -1, .inr (.inl rfl), fun z => ?_⟩
      rw [hs, csum_append, csum_append]
      have : cut1 ns ⟨a.src, a.dst, z, z, a.loBy, a.hiBy⟩ = [(⟨a.src, a.dst, z, z, a.loBy, a.hiBy⟩, false)] := by rw [cut1, if_pos h1, decide_eq_false h2]
      rw [this]
      simp [csum, csum1]; omega
  · refine ⟨csum (cutl ns (arcs.take i)) + csum (cutl ns (arcs.drop (i + 1))), 0, .inr (.inr rfl), fun z => ?_⟩
    rw [hs, csum_append, csum_append]
    have : cut1 ns ⟨a.src, a.dst, z, z, a.loBy, a.hiBy⟩ = [] := by rw [cut1, if_neg h1]
    rw [this]
    simp [csum]
/-- Between the amounts of two circulations there is no obstacle. -/
theorem between {i : Nat} {k : Int} {x y : List Int} {u v : Int} (hV : Valid N arcs) (hx : Circ arcs x) (hy : Circ arcs y) (hxi : x[i]? = some u) (hyi : y[i]? = some v) (h1 : u ≤ k) (h2 : k ≤ v) (hn : NoC N (fix arcs i k)) : False := by
  have hi : i < arcs.length := by rw [← hx.bds.1]; exact (List.getElem?_eq_some_iff.1 hxi).1
  obtain ⟨a, ha⟩ : ∃ a, arcs[i]? = some a := ⟨_, List.getElem?_eq_getElem hi⟩
  obtain ⟨A, ns, hh⟩ := hn
  have cx := fix_circ hx hxi
  have cy := fix_circ hy hyi
  have bx := hx.bds.2 i a u ha hxi
  have by_ := hy.bds.2 i a v ha hyi
  have kx : inb2 arcs i u = true := by rw [inb2, ha]; exact decide_eq_true bx
  have ky : inb2 arcs i v = true := by rw [inb2, ha]; exact decide_eq_true by_
  by_cases hA : 0 ≤ A
  · obtain ⟨b, hb, hlt⟩ := hind_bad hh hA
    by_cases e : A.toNat = i
    · subst e
      rw [fix, ha] at hb
      have := set_get (b := (⟨a.src, a.dst, k, k, a.loBy, a.hiBy⟩ : Arc)) ha
      rw [this] at hb
      cases hb
      simp at hlt
    · have : (fix arcs i k)[A.toNat]? = arcs[A.toNat]? := by rw [fix, ha]; exact List.getElem?_set_ne (fun h => e h.symm)
      rw [this] at hb
      obtain ⟨z, hz⟩ : ∃ z, x[A.toNat]? = some z := ⟨_, List.getElem?_eq_getElem (by rw [hx.bds.1]; exact (List.getElem?_eq_some_iff.1 hb).1)⟩
      have := hx.bds.2 _ b z hb hz
      omega
  · obtain ⟨rfl, hasc, hpos⟩ := hind_cut hh hA
    obtain ⟨c, s, hs, hc⟩ := csum_fix ns hi
    have e1 : csum (cutl ns (fix arcs i u)) ≤ 0 := by
      rcases Int.lt_or_le 0 (csum (cutl ns (fix arcs i u))) with h | h
      · exact (hind_no (A := -1) (fix_valid hV kx) (by rw [hind, if_neg (by omega), hasc, decide_eq_true h]; rfl) cx).elim
      · exact h
    have e2 : csum (cutl ns (fix arcs i v)) ≤ 0 := by
      rcases Int.lt_or_le 0 (csum (cutl ns (fix arcs i v))) with h | h
      · exact (hind_no (A := -1) (fix_valid hV ky) (by rw [hind, if_neg (by omega), hasc, decide_eq_true h]; rfl) cy).elim
      · exact h
    rw [hc] at e1 e2 hpos
    rcases hs with rfl | rfl | rfl <;> omega
theorem unit_neg (n i : Nat) (k : Int) : (unit n i k).map (- ·) = unit n i (-k) := by
  apply List.ext_getElem?
  intro j
  simp only [unit, List.getElem?_map, List.getElem?_set, List.length_replicate, List.getElem?_replicate]
  by_cases e : i = j
  · simp only [e, if_true]
    by_cases h : j < n <;> simp [h]
  · simp only [e, if_false]
    by_cases h : j < n <;> simp [h]
theorem RaR.bd {i lo hi e : Int} (h : RaR N arcs i lo hi e) : 0 ≤ lo ∧ lo ≤ 1000000 ∧ 0 ≤ hi ∧ hi ≤ 1000000 := by
  cases h with
  | bad => omega
  | no => omega
  | yes h0 o1 o2 =>
    obtain ⟨hV, hi0, hi1⟩ := aski_zero.1 h0
    have a1 := (o1.circ.amts hV).bd _ (List.mem_of_getElem? (nth_get (i := i.toNat) (by rw [o1.circ.bds.1]; omega)))
    have a2 := (o2.circ.amts hV).bd _ (List.mem_of_getElem? (nth_get (i := i.toNat) (by rw [o2.circ.bds.1]; omega)))
    omega
theorem sharp1 {i lo hi e k f : Int} {x : List Int} {is : Bool} (h1 : RaR N arcs i lo hi e) (h2 : ThR N arcs i k x is f) (he : ¬ e = 0) : (lo = 0 ∧ hi = 0 ∧ x.length = 0 ∧ (f = e ∨ (e = 60 ∧ f = 0))) ∧ is = false := by
  cases h1 with
  | bad g1 =>
    cases h2 with
    | bad => exact ⟨⟨rfl, rfl, rfl, .inl rfl⟩, rfl⟩
    | out g => exact absurd g g1
    | no g => exact absurd g g1
    | yes g => exact absurd g g1
  | no g1 g2 =>
    cases h2 with
    | bad g => exact absurd g1 g
    | out => exact ⟨⟨rfl, rfl, rfl, .inr ⟨rfl, rfl⟩⟩, rfl⟩
    | no => exact ⟨⟨rfl, rfl, rfl, .inr ⟨rfl, rfl⟩⟩, rfl⟩
    | yes _ hk hc => exact (g2.no (aski_zero.1 g1).1 ((fix_nrw hk).circ hc)).elim
  | yes => exact absurd rfl he
theorem sharp2 {i lo hi e n f : Int} {x p : List Int} (h1 : RaR N arcs i lo hi e) (he : e = 0) (h2 : GrR N arcs (unit arcs.length i.toNat 1) n x p f) : f = 0 ∧ n = hi := by
  cases h1 with
  | bad h => exact absurd he h
  | no => exact absurd he (by decide)
  | yes h0 o1 o2 =>
    obtain ⟨hV, hi0, hi1⟩ := aski_zero.1 h0
    have hl : i.toNat < arcs.length := by omega
    obtain ⟨f0, d1, z, hz, hn⟩ := h2.ok hV (unit_wts (by omega)) o2.circ
    have d2 := o2.max hV (unit_length ..) hz
    rw [o2.unit_eq hl] at d1 d2
    exact ⟨f0, by omega⟩
theorem sharp3 {i lo hi e m f : Int} {x p : List Int} (h1 : RaR N arcs i lo hi e) (he : e = 0) (h2 : GrR N arcs ((unit arcs.length i.toNat 1).map (- ·)) (-m) x p f) : f = 0 ∧ m = lo := by
  rw [unit_neg] at h2
  cases h1 with
  | bad h => exact absurd he h
  | no => exact absurd he (by decide)
  | yes h0 o1 o2 =>
    obtain ⟨hV, hi0, hi1⟩ := aski_zero.1 h0
    have hl : i.toNat < arcs.length := by omega
    obtain ⟨f0, d1, z, hz, hn⟩ := h2.ok hV (unit_wts (by omega)) o1.circ
    have d2 := o1.max hV (unit_length ..) hz
    rw [o1.unit_eq hl] at d1 d2
    exact ⟨f0, by omega⟩
theorem sharp4 {i lo hi e k f : Int} {x : List Int} {is : Bool} (h1 : RaR N arcs i lo hi e) (he : e = 0) (h2 : ThR N arcs i k x is f) :
    f = 0 ∧ (is = true → (lo ≤ k ∧ k ≤ hi) ∧ Circ arcs x ∧ x[i.toNat]? = some k) ∧ (is = false → x.length = 0 ∧ ¬ (lo ≤ k ∧ k ≤ hi)) := by
  cases h1 with
  | bad h => exact absurd he h
  | no => exact absurd he (by decide)
  | yes h0 o1 o2 =>
    obtain ⟨hV, hi0, hi1⟩ := aski_zero.1 h0
    have hl : i.toNat < arcs.length := by omega
    have g1 := nth_get (l := _) (i := i.toNat) (by rw [o1.circ.bds.1]; exact hl)
    have g2 := nth_get (l := _) (i := i.toNat) (by rw [o2.circ.bds.1]; exact hl)
    obtain ⟨a, ha⟩ : ∃ a, arcs[i.toNat]? = some a := ⟨_, List.getElem?_eq_getElem hl⟩
    have b1 := o1.circ.bds.2 _ a _ ha g1
    have b2 := o2.circ.bds.2 _ a _ ha g2
    cases h2 with
    | bad h => exact absurd h0 h
    | out _ hk =>
      refine ⟨rfl, fun h => (by cases h), fun _ => ⟨rfl, ?_⟩⟩
      rw [inb2, ha] at hk
      have hk := of_decide_eq_false hk
      omega
    | no _ hk hn => exact ⟨rfl, fun h => (by cases h), fun _ => ⟨rfl, fun hb => between hV o1.circ o2.circ g1 g2 hb.1 hb.2 hn⟩⟩
    | yes _ hk hc =>
      have hx := (fix_nrw hk).circ hc
      have hxi := fix_at hl hc
      refine ⟨rfl, fun _ => ⟨?_, hx, hxi⟩, fun h => (by cases h)⟩
      have m1 := o1.max hV (unit_length ..) hx
      have m2 := o2.max hV (unit_length ..) hx
      rw [o1.unit_eq hl, dot_unit _ _ _ hl hxi] at m1
      rw [o2.unit_eq hl, dot_unit _ _ _ hl hxi] at m2
      omega

/-! ### lifted records -/
theorem wot_ends1 (r : Int) (a : Arc) : (wot1 r a).src = a.src ∧ (wot1 r a).dst = a.dst := by
  unfold wot1 wotHi wotLo
  split <;> split <;> exact ⟨rfl, rfl⟩
theorem wot_wide1 {r : Int} {a : Arc} (hok : okArc N a = true) : (wot1 r a).lo ≤ a.lo ∧ a.hi ≤ (wot1 r a).hi ∧ okArc N (wot1 r a) = true := by
  rw [okArc_iff] at hok ⊢
  unfold wot1 wotHi wotLo
  split <;> rename_i h1 <;> split <;> rename_i h2 <;> simp at * <;> omega
theorem wot_get {r : Int} {i : Nat} {a : Arc} (h : arcs[i]? = some a) : (wot arcs r)[i]? = some (wot1 r a) := by simp [wot, h]
theorem wot_valid {r : Int} (hV : Valid N arcs) : Valid N (wot arcs r) := by
  refine ⟨hV.pos, hV.max, by simpa [wot] using hV.len, fun b hb => ?_⟩
  obtain ⟨a, ha, rfl⟩ := List.mem_map.1 hb
  exact (wot_wide1 (hV.ok a ha)).2.2
theorem wot_nrw {r : Int} (hV : Valid N arcs) : Nrw (wot arcs r) arcs := by
  refine ⟨by simp [wot], fun i x y hx hy => ?_⟩
  have := wot_get (r := r) hy
  rw [this] at hx
  cases hx
  have h1 := wot_ends1 r y
  have h2 := wot_wide1 (r := r) (hV.ok y (List.mem_of_getElem? hy))
  exact ⟨⟨h1.1.symm, h1.2.symm⟩, h2.1, h2.2.1⟩
theorem wot_lo {r : Int} {a : Arc} (h : 0 < a.lo → a.loBy ≠ r) (h0 : 0 ≤ a.lo) : (wot1 r a).lo = a.lo := by
  unfold wot1 wotHi wotLo
  split <;> split <;> simp <;> (rename_i h1 h2; first | rfl | (have : ¬ 0 < a.lo := fun q => h q (by first | exact h1 | exact h2); omega))
theorem wot_hi {r : Int} {a : Arc} (h : a.hiBy ≠ r) : (wot1 r a).hi = a.hi := by
  by_cases hl : a.loBy = r <;> simp [wot1, wotHi, wotLo, hl, h]
theorem cut_wot {r : Int} (ns : List Int) : ∀ (as : List Arc), (∀ a ∈ as, okArc N a = true) → (∀ x, x ∈ orecs (cutl ns as) → x ≠ r) → csum (cutl ns (as.map (wot1 r))) = csum (cutl ns as) := by
  intro as
  induction as with
  | nil => intro _ _; rfl
  | cons a as ih =>
    intro hok h
    have hc : ∀ (b : Arc) (bs : List Arc), cutl ns (b :: bs) = cut1 ns b ++ cutl ns bs := fun b bs => by simp [cutl]
    rw [List.map_cons, hc, hc, csum_append, csum_append]
    rw [hc] at h
    have ho : ∀ s t : List (Arc × Bool), orecs (s ++ t) = orecs s ++ orecs t := fun s t => by simp [orecs, recs]
    rw [ho] at h
    rw [ih (fun b hb => hok b (List.mem_cons_of_mem _ hb)) fun x hx => h x (List.mem_append_right _ hx)]
    have hoa := okArc_iff.1 (hok a (List.mem_cons_self ..))
    have e := wot_ends1 r a
    have key : csum (cut1 ns (wot1 r a)) = csum (cut1 ns a) := by
      unfold cut1
      rw [e.1, e.2]
      split
      · rename_i h1
        have h2 : ∀ x, x ∈ orecs (cut1 ns a) → x ≠ r := fun x hx => h x (List.mem_append_left _ hx)
        rw [cut1, if_pos h1] at h2
        by_cases hs : a.src ∈ ns
        · rw [decide_eq_true hs] at h2 ⊢
          have h3 : (wot1 r a).lo = a.lo := wot_lo (fun hp => h2 _ (by simp [orecs, recs, rec1, hp])) (by omega)
          simp [csum, csum1, h3]
        · rw [decide_eq_false hs] at h2 ⊢
          have h3 : (wot1 r a).hi = a.hi := wot_hi (h2 _ (by simp [orecs, recs, rec1]))
          simp [csum, csum1, h3]
      · rfl
    rw [key]
theorem lift1 {r A : Int} {ns : List Int} (hV : Valid N arcs) (hr : 1 ≤ r) (hh : hind N arcs A ns = true) (hn : ¬ r ∈ orec arcs A ns) : hind N (wot arcs r) A ns = true := by
  by_cases hA : 0 ≤ A
  · obtain ⟨a, ha, hlt⟩ := hind_bad hh hA
    rw [orec, if_pos hA, ha] at hn
    have h1 : a.loBy ≠ r := fun e => hn (mem_lst.2 ⟨by simp [e], by omega⟩)
    have h2 : a.hiBy ≠ r := fun e => hn (mem_lst.2 ⟨by simp [e], by omega⟩)
    rw [hind, if_pos (by omega), bad] at hh ⊢
    rw [wot_get ha, wot00 h1 h2]
    rw [ha] at hh
    simpa [wot] using hh
  · obtain ⟨rfl, h1, h2⟩ := hind_cut hh hA
    rw [orec, if_neg hA] at hn
    rw [hind, if_neg (by omega), h1, Bool.true_and, wot, cut_wot (N := N) ns arcs hV.ok (fun x hx e => hn (mem_lst.2 ⟨by rw [← e]; exact hx, by omega⟩))]
    exact decide_eq_true h2
theorem bnd_wot {p : List Int} {r : Int} : ∀ (as : List Arc) (ys : List Int), (∀ a ∈ as, okArc N a = true) → (∀ x, x ∈ recs (told p as ys) → x ≠ r) → bnd p (as.map (wot1 r)) ys = bnd p as ys := by
  intro as
  induction as with
  | nil => intro ys _ _; rfl
  | cons a as ih =>
    intro ys hok h
    cases ys with
    | nil => rfl
    | cons y ys =>
      have hoa := okArc_iff.1 (hok a (List.mem_cons_self ..))
      have e := wot_ends1 r a
      have hrs : rst p (wot1 r a) y = rst p a y := by unfold rst; rw [e.1, e.2]
      rw [told] at h
      have hap : ∀ s t : List (Arc × Bool), recs (s ++ t) = recs s ++ recs t := fun s t => by simp [recs]
      rw [hap] at h
      simp only [List.map_cons, bnd]
      rw [ih ys (fun b hb => hok b (List.mem_cons_of_mem _ hb)) fun x hx => h x (List.mem_append_right _ hx)]
      have h2 : ∀ x, x ∈ recs (told1 p a y) → x ≠ r := fun x hx => h x (List.mem_append_left _ hx)
      have key : part p (wot1 r a) y = part p a y := by
        unfold part
        rw [hrs]
        split
        · rename_i hc
          rw [told1_pos hc] at h2
          rw [wot_hi (h2 _ (by simp [recs, rec1]))]
        · split
          · rename_i hc
            rw [told1_neg hc] at h2
            rw [wot_lo (fun hp => h2 _ (by simp [recs, rec1, hp])) (by omega)]
          · rfl
      rw [key]
theorem lift2 {r n m e f b k : Int} {wl x p y q : List Int} (hr : 1 ≤ r) (h1 : GrR N arcs wl n x p e) (he : e = 0) (hn : ¬ r ∈ lst (recs (told p arcs wl))) (h2 : BoundR N (wot arcs r) wl p b k) (h3 : GrR N (wot arcs r) wl m y q f) :
    k = 0 ∧ f = 0 ∧ b = n ∧ m = n := by
  obtain ⟨hV, hw, ho, hno⟩ := h1.opt he
  have hV2 := wot_valid (r := r) hV
  have hl : (wot arcs r).length = arcs.length := by simp [wot]
  have hw2 : Wts (wot arcs r) wl := ⟨hw.len.trans hl.symm, hw.bd⟩
  have hc : Circ (wot arcs r) x := (wot_nrw hV).circ ho.circ
  have hb : bnd p (wot arcs r) wl = bnd p arcs wl := bnd_wot (N := N) arcs wl hV.ok fun z hz e => hn (mem_lst.2 ⟨by rw [← e]; exact hz, by omega⟩)
  have k0 : k = 0 := by rw [h2.1, askd_zero, Bool.and_eq_true]; exact ⟨hV2, wtb.2 hw2, ptb.2 ho.pts⟩
  have hbn : b = n := by rw [h2.2, if_pos k0, hb, hno, ho.eq hV hw.len]
  obtain ⟨f0, d1, z, hz, hm⟩ := h3.ok hV2 hw2 hc
  have d2 := dual hV2 hz hw2.len p
  rw [hb, ← ho.eq hV hw.len] at d2
  exact ⟨k0, f0, hbn, by omega⟩
theorem GrR.arg {wl x p y : List Int} {n e : Int} (h : GrR N arcs wl n x p e) (hV : Valid N arcs) (hc : Circ arcs y) (he : ¬ e = 0) : e = 1 := by
  cases h with
  | bad hb =>
    rw [askw, askd_valid hV]
    have : ¬ row wl arcs.length (-1000) 1000 = true := fun hr => hb (askw_zero.2 ⟨hV, row_wts.1 hr⟩)
    rw [if_neg this]
  | no _ _ h => exact (h.no hV hc).elim
  | yes => exact absurd rfl he
theorem RaR.ask {i lo hi e : Int} (h : RaR N arcs i lo hi e) (he : e = 0) : Valid N arcs ∧ 0 ≤ i ∧ i < arcs.length := by
  cases h with
  | bad h => exact absurd he h
  | no => exact absurd he (by decide)
  | yes h0 => exact aski_zero.1 h0
theorem ObsR.isT {A f : Int} {ns : List Int} (h : ObsR N arcs A ns true f) : f = 0 ∧ hind N arcs A ns = true := by
  cases h with
  | no _ h => exact ⟨rfl, h⟩
theorem ObsR.isF {A f : Int} {ns : List Int} (h : ObsR N arcs A ns false f) (hV : Valid N arcs) : f = 0 ∧ ∃ y, Circ arcs y := by
  cases h with
  | bad h => exact absurd (chk_zero.2 hV) h
  | yes _ h => exact ⟨rfl, _, h⟩
theorem ChkOR.no {A e : Int} {ns : List Int} (h : ChkOR N arcs A ns false e) (hV : Valid N arcs) (hh : Flow.hind N arcs A ns = true) : False := by
  have := (h.yes hV hh).1
  cases this
theorem lst_len (l : List Int) : (lst l).length ≤ l.length := by
  have h1 := Lib.compact_length_le ((l.filter fun x => !decide (x = 0)).mergeSort fun x y => decide (x ≤ y))
  rw [List.length_mergeSort] at h1
  exact Nat.le_trans h1 (List.length_filter_le _ _)
theorem orec_len {A : Int} {ns : List Int} (hV : Valid N arcs) : (orec arcs A ns).length ≤ 8000 := by
  unfold orec
  split
  · split
    · exact Nat.le_trans (lst_len _) (by simp)
    · simp
  · have h1 := lst_len (orecs (cutl ns arcs))
    have h2 := orecs_len (cutl ns arcs)
    have h3 := cutl_len ns arcs
    have h4 := hV.len
    omega
end
end Go.Vk.Flow

/- Nets, as plain mathematics, part 13: lists of records that grow one by one. No program in sight. -/
namespace Go.Vk.Flow
open Go

theorem lst_zero {L : List Int} {n : Int} (h : n = 0) : lst (L ++ [n]) = lst L :=
  lst_eq (lst_sorted L) fun x => by rw [mem_lst]; simp; omega
theorem lst_old {L : List Int} {n : Int} (h : n ∈ lst L) : lst (L ++ [n]) = lst L := by
  have h1 := (mem_lst.1 h)
  refine lst_eq (lst_sorted L) fun x => ?_
  rw [mem_lst]
  constructor
  · rintro ⟨a, b⟩; exact ⟨by simp [a], b⟩
  · rintro ⟨a, b⟩
    rcases List.mem_append.1 a with a | a
    · exact ⟨a, b⟩
    · simp at a; subst a; exact h1
theorem lst_new {L : List Int} {n : Int} {k : Nat} (hn : 0 < n) (h1 : ∀ x ∈ (lst L).drop k, n < x) (h2 : ∀ x ∈ (lst L).take k, x < n) : lst (L ++ [n]) = (lst L).take k ++ [n] ++ (lst L).drop k := by
  have hs := lst_sorted L
  have hs' : ((lst L).take k ++ (lst L).drop k).Pairwise (· < ·) := by rw [List.take_append_drop]; exact hs
  obtain ⟨p1, p2, p3⟩ := List.pairwise_append.1 hs'
  refine lst_eq (List.pairwise_append.2 ⟨List.pairwise_append.2 ⟨p1, by simp, fun x hx y hy => ?_⟩, p2, fun x hx y hy => ?_⟩) fun x => ?_
  · simp at hy; subst hy; exact h2 x hx
  · rcases List.mem_append.1 hx with hx | hx
    · exact p3 x hx y hy
    · simp at hx; subst hx; exact h1 y hy
  · have hm : x ∈ lst L ↔ x ∈ (lst L).take k ∨ x ∈ (lst L).drop k := by
      rw [← List.mem_append, List.take_append_drop]
    rw [mem_lst] at hm
    simp only [List.mem_append, List.mem_singleton]
    constructor
    · rintro ((h | h) | h)
      · exact ⟨.inl (hm.2 (.inl h)).1, (hm.2 (.inl h)).2⟩
      · subst h; exact ⟨.inr rfl, by omega⟩
      · exact ⟨.inl (hm.2 (.inr h)).1, (hm.2 (.inr h)).2⟩
    · rintro ⟨h | h, h0⟩
      · rcases hm.1 ⟨h, h0⟩ with h | h
        · exact .inl (.inl h)
        · exact .inr h
      · exact .inl (.inr h)
theorem lst_newl {l L : List Int} {n : Int} {k : Nat} (hl : l = lst L) (hn : 0 < n) (h1 : ∀ x ∈ l.drop k, n < x) (h2 : ∀ x ∈ l.take k, x < n) : lst (L ++ [n]) = l.take k ++ [n] ++ l.drop k := by
  subst hl; exact lst_new hn h1 h2
theorem drop_gt {l : List Int} {i : Nat} {x n : Int} (h : ∀ y ∈ l.drop i, n < y) (hx : l[i - 1]? = some x) (h0 : 0 < i) (hn : n < x) : ∀ y ∈ l.drop (i - 1), n < y := by
  obtain ⟨hlt, e⟩ := List.getElem?_eq_some_iff.1 hx
  rw [List.drop_eq_getElem_cons hlt, e, show i - 1 + 1 = i by omega]
  intro y hy
  rcases List.mem_cons.1 hy with h' | h'
  · subst h'; exact hn
  · exact h y h'
theorem take_lt {l : List Int} (hs : l.Pairwise (· < ·)) {i : Nat} {x n : Int} (hx : l[i - 1]? = some x) (h0 : 0 < i) (hn : x < n) : ∀ y ∈ l.take i, y < n := by
  obtain ⟨hlt, e⟩ := List.getElem?_eq_some_iff.1 hx
  intro y hy
  obtain ⟨j, hj, rfl⟩ := List.mem_take_iff_getElem.1 hy
  rcases Nat.lt_or_ge j (i - 1) with h | h
  · have := List.pairwise_iff_getElem.1 hs j (i - 1) (by omega) hlt h
    omega
  · have : j = i - 1 := by omega
    subst this; omega
theorem lst_nil : lst [] = [] := lst_eq (by simp) (by simp)
theorem recs_one_hi {a : Arc} : recs [(a, true)] = [a.hiBy] := rfl
theorem recs_one_lo {a : Arc} (h : 0 < a.lo) : recs [(a, false)] = [a.loBy] := by simp [recs, rec1, h]
theorem recs_one_no {a : Arc} (h : ¬ 0 < a.lo) : recs [(a, false)] = [] := by simp [recs, rec1, h]
theorem recs_app (s t : List (Arc × Bool)) : recs (s ++ t) = recs s ++ recs t := by simp [recs]
theorem orecs_app (s t : List (Arc × Bool)) : orecs (s ++ t) = orecs s ++ orecs t := by simp [orecs, recs]
section
variable {ns : List Int} {arcs : List Arc} {i : Nat} {a : Arc}
theorem oc_lo (ha : arcs[i]? = some a) (hs : decide (a.src ∈ ns) = true) (hd : decide (a.dst ∈ ns) = false) (h : 0 < a.lo) : lst (orecs (cutl ns (arcs.take (i + 1)))) = lst (orecs (cutl ns (arcs.take i)) ++ [a.loBy]) := by
  rw [cutl_take ha, cut1, hs, hd, if_pos (by decide), orecs_snoc]; simp [rec1, h]
theorem oc_lo0 (ha : arcs[i]? = some a) (hs : decide (a.src ∈ ns) = true) (hd : decide (a.dst ∈ ns) = false) (h : ¬ 0 < a.lo) : lst (orecs (cutl ns (arcs.take (i + 1)))) = lst (orecs (cutl ns (arcs.take i))) := by
  rw [cutl_take ha, cut1, hs, hd, if_pos (by decide), orecs_snoc]; simp [rec1, h]
theorem oc_hi (ha : arcs[i]? = some a) (hs : decide (a.src ∈ ns) = false) (hd : decide (a.dst ∈ ns) = true) : lst (orecs (cutl ns (arcs.take (i + 1)))) = lst (orecs (cutl ns (arcs.take i)) ++ [a.hiBy]) := by
  rw [cutl_take ha, cut1, hs, hd, if_pos (by decide), orecs_snoc]; rfl
theorem oc_no (ha : arcs[i]? = some a) {b c : Bool} (hs : decide (a.src ∈ ns) = b) (hd : decide (a.dst ∈ ns) = c) (e : b = c) : lst (orecs (cutl ns (arcs.take (i + 1)))) = lst (orecs (cutl ns (arcs.take i))) := by
  rw [cutl_take ha, cut1, hs, hd, e, if_neg (by simp), List.append_nil]
end
end Go.Vk.Flow
namespace Go.Vk.Flow
open Go
section
variable {N : Int} {arcs : List Arc} {w x p ns : List Int} {A : Int} {k k' : Bool} {s s' e e' : Int}
theorem bool_same {P : Prop} (h : k = true ↔ P) (h' : k' = true ↔ P) : k' = k := by
  cases k <;> cases k' <;> simp_all
theorem KeptR.same (h : KeptR N arcs x k e) (h' : KeptR N arcs x k' e') : k = k' ∧ e = e' := ⟨bool_same h'.2 h.2, h.1.trans h'.1.symm⟩
theorem SumR.same (h : SumR N arcs w x s e) (h' : SumR N arcs w x s' e') : s = s' ∧ e = e' := by
  obtain ⟨h1, h2⟩ := h; obtain ⟨h3, h4⟩ := h'
  have he : e' = e := h3.trans h1.symm
  subst he
  exact ⟨h2.trans h4.symm, rfl⟩
theorem BoundR.same (h : BoundR N arcs w p s e) (h' : BoundR N arcs w p s' e') : s = s' ∧ e = e' := by
  obtain ⟨h1, h2⟩ := h; obtain ⟨h3, h4⟩ := h'
  have he : e' = e := h3.trans h1.symm
  subst he
  exact ⟨h2.trans h4.symm, rfl⟩
theorem BestR.same (h : BestR N arcs w x p k e) (h' : BestR N arcs w x p k' e') : k = k' ∧ e = e' := by
  obtain ⟨h1, h2⟩ := h; obtain ⟨h3, h4⟩ := h'
  have he : e' = e := h3.trans h1.symm
  subst he
  exact ⟨bool_same h4 h2, rfl⟩
theorem orec_if_len (b : Bool) : (if askd N arcs b = 0 then orec arcs A ns else []).length ≤ 8000 := by
  split
  · next h => exact orec_len (askd_zero.1 h).1
  · exact Nat.zero_le _
theorem recs_if_len (b : Bool) : (if askd N arcs b = 0 then lst (recs (told p arcs w)) else []).length ≤ 4000 := by
  split
  · next h => have h1 := lst_len (recs (told p arcs w)); have h2 := recs_len (told p arcs w); have h3 := told_len (p := p) arcs w; have h4 := (askd_zero.1 h).1.len; omega
  · exact Nat.zero_le _
end
end Go.Vk.Flow

/- Nets, as plain mathematics, part 14: the order of the arcs. No program in sight. -/
namespace Go.Vk.Flow
open Go

theorem ex_app : ∀ (as : List Arc) (ys : List Int) (bs : List Arc) (zs : List Int) (v : Nat), as.length = ys.length → ex (as ++ bs) (ys ++ zs) v = ex as ys v + ex bs zs v := by
  intro as
  induction as with
  | nil => intro ys bs zs v h; cases ys with
    | nil => simp [ex]
    | cons => simp at h
  | cons a as ih => intro ys bs zs v h; cases ys with
    | nil => simp at h
    | cons y ys =>
      have h1 := ih ys bs zs v (by simpa using h)
      simp only [List.cons_append, ex, h1]; omega
theorem dot_app : ∀ (as ys bs zs : List Int), as.length = ys.length → dot (as ++ bs) (ys ++ zs) = dot as ys + dot bs zs := by
  intro as
  induction as with
  | nil => intro ys bs zs h; cases ys with
    | nil => simp [dot]
    | cons => simp at h
  | cons a as ih => intro ys bs zs h; cases ys with
    | nil => simp at h
    | cons y ys =>
      have h1 := ih ys bs zs (by simpa using h)
      simp only [List.cons_append, dot, h1]; omega
theorem within_app : ∀ (as : List Arc) (ys : List Int) (bs : List Arc) (zs : List Int), as.length = ys.length → within (as ++ bs) (ys ++ zs) = (within as ys && within bs zs) := by
  intro as
  induction as with
  | nil => intro ys bs zs h; cases ys with
    | nil => simp [within]
    | cons => simp at h
  | cons a as ih => intro ys bs zs h; cases ys with
    | nil => simp at h
    | cons y ys =>
      have h1 := ih ys bs zs (by simpa using h)
      simp only [List.cons_append, within, h1, Bool.and_assoc]

/-- A list turned by k places. -/
def rot {α : Type} (l : List α) (k : Nat) : List α := l.drop k ++ l.take k
section
variable {α : Type} {l : List α} {k : Nat}
theorem rot_len : (rot l k).length = l.length := by simp [rot]; omega
theorem rot_rot : rot (rot l k) (l.length - k) = l := by
  have h1 : (l.drop k).length = l.length - k := List.length_drop
  rw [rot, rot, List.drop_left' h1, List.take_left' h1, List.take_append_drop]
theorem rot_rot' (h : k ≤ l.length) : rot (rot l (l.length - k)) k = l := by
  have h1 : (l.drop (l.length - k)).length = k := by rw [List.length_drop]; omega
  rw [rot, rot, List.drop_left' h1, List.take_left' h1, List.take_append_drop]
theorem mem_rot {a : α} : a ∈ rot l k ↔ a ∈ l := by
  rw [rot, List.mem_append, or_comm, ← List.mem_append, List.take_append_drop]
theorem rot_get {j : Nat} (hk : k < l.length) (hj : j < l.length) : (rot l k)[j]? = l[(j + k) % l.length]? := by
  rw [rot, List.getElem?_append]
  split
  · rename_i h
    rw [List.length_drop] at h
    rw [List.getElem?_drop, Nat.mod_eq_of_lt (by omega), Nat.add_comm]
  · rename_i h
    rw [List.length_drop] at *
    have e : (j + k) % l.length = j + k - l.length := by rw [Nat.mod_eq_sub_mod (by omega), Nat.mod_eq_of_lt (by omega)]
    rw [List.getElem?_take, if_pos (by omega), e]
    congr 1; omega
theorem rot_map {β : Type} (f : α → β) : (rot l k).map f = rot (l.map f) k := by simp [rot]
end
section
variable {N : Int} {arcs : List Arc} {wl x : List Int} {k : Nat}
theorem ex_rot (h : arcs.length = x.length) (v : Nat) : ex (rot arcs k) (rot x k) v = ex arcs x v := by
  have e1 : (arcs.take k).length = (x.take k).length := by simp [h]
  have e2 : (arcs.drop k).length = (x.drop k).length := by simp [h]
  have e := ex_app (arcs.take k) (x.take k) (arcs.drop k) (x.drop k) v e1
  rw [List.take_append_drop, List.take_append_drop] at e
  rw [e, rot, rot, ex_app _ _ _ _ _ e2]; omega
theorem dot_rot (h : wl.length = x.length) : dot (rot wl k) (rot x k) = dot wl x := by
  have e1 : (wl.take k).length = (x.take k).length := by simp [h]
  have e2 : (wl.drop k).length = (x.drop k).length := by simp [h]
  have e := dot_app (wl.take k) (x.take k) (wl.drop k) (x.drop k) e1
  rw [List.take_append_drop, List.take_append_drop] at e
  rw [e, rot, rot, dot_app _ _ _ _ e2]; omega
theorem within_rot (h : arcs.length = x.length) : within (rot arcs k) (rot x k) = within arcs x := by
  have e1 : (arcs.take k).length = (x.take k).length := by simp [h]
  have e2 : (arcs.drop k).length = (x.drop k).length := by simp [h]
  have e := within_app (arcs.take k) (x.take k) (arcs.drop k) (x.drop k) e1
  rw [List.take_append_drop, List.take_append_drop] at e
  rw [e, rot, rot, within_app _ _ _ _ e2, Bool.and_comm]
theorem Circ.rot (h : Circ arcs x) : Circ (rot arcs k) (rot x k) := by
  obtain ⟨⟨h1, h2⟩, h3⟩ := h
  refine ⟨⟨by rw [rot_len, rot_len, h1], ?_⟩, fun v => by rw [ex_rot h1.symm, h3]⟩
  rw [← within_iff _ _ (by rw [rot_len, rot_len, h1]), within_rot h1.symm, within_iff _ _ h1.symm]; exact h2
theorem Circ.unrot (_hk : k ≤ arcs.length) (h : Circ (Flow.rot arcs k) x) : Circ arcs (Flow.rot x (arcs.length - k)) := by
  have h1 := h.rot (k := arcs.length - k)
  rwa [rot_rot] at h1
theorem chk_rot : chk N (rot arcs k) = chk N arcs := by
  have e : (rot arcs k).any (fun a => !okArc N a) = arcs.any (fun a => !okArc N a) := by
    rw [Bool.eq_iff_iff, List.any_eq_true, List.any_eq_true]
    constructor
    · rintro ⟨a, ha, h⟩; exact ⟨a, mem_rot.1 ha, h⟩
    · rintro ⟨a, ha, h⟩; exact ⟨a, mem_rot.2 ha, h⟩
  rw [chk, chk, rot_len, e]
theorem row_rot {n a b : Int} : row (rot wl k) n a b = row wl n a b := by
  rw [Bool.eq_iff_iff, row_iff, row_iff, rot_len]
  exact ⟨fun ⟨h1, h2⟩ => ⟨h1, fun x hx => h2 x (mem_rot.2 hx)⟩, fun ⟨h1, h2⟩ => ⟨h1, fun x hx => h2 x (mem_rot.1 hx)⟩⟩
theorem askw_rot : askw N (rot arcs k) (rot wl k) = askw N arcs wl := by rw [askw, askw, askd, askd, chk_rot, row_rot, rot_len]
theorem Valid.rot (h : Valid N arcs) : Valid N (rot arcs k) := chk_zero.1 (by rw [chk_rot]; exact chk_zero.2 h)
/-- The greatest sum does not depend on the order. -/
theorem GrR.turn {n n' e e' : Int} {y p q : List Int} (hk : k ≤ arcs.length) (h1 : GrR N arcs wl n x p e) (h2 : GrR N (Flow.rot arcs k) (Flow.rot wl k) n' y q e') : n = n' ∧ e = e' := by
  cases h1 with
  | bad g1 =>
    cases h2 with
    | bad => exact ⟨rfl, askw_rot.symm⟩
    | no hV hw _ => exact absurd (by rw [← askw_rot (k := k)]; exact askw_zero.2 ⟨hV, hw⟩) g1
    | yes hV hw _ => exact absurd (by rw [← askw_rot (k := k)]; exact askw_zero.2 ⟨hV, hw⟩) g1
  | no hV hw g1 =>
    cases h2 with
    | bad g => exact absurd (by rw [askw_rot]; exact askw_zero.2 ⟨hV, hw⟩) g
    | no => exact ⟨rfl, rfl⟩
    | yes _ _ g => exact (g1.no hV (g.circ.unrot hk)).elim
  | yes hV hw g1 =>
    cases h2 with
    | bad g => exact absurd (by rw [askw_rot]; exact askw_zero.2 ⟨hV, hw⟩) g
    | no _ _ g => exact (g.no hV.rot g1.circ.rot).elim
    | yes hV2 hw2 g =>
      have l1 := g1.circ.bds.1
      have l2 := g.circ.bds.1
      have hwl := hw.len
      rw [rot_len] at l2
      have a1 := g.max hV2 hw2.len (g1.circ.rot (k := k))
      rw [dot_rot (by omega)] at a1
      have a2 := g1.max hV hw.len (g.circ.unrot hk)
      rw [← dot_rot (k := k) (by rw [rot_len]; omega), show arcs.length - k = y.length - k by omega, rot_rot' (by omega)] at a2
      exact ⟨by omega, rfl⟩
end
/-- Where an arc stands after the turn. -/
def spot (n i k : Nat) : Nat := (i + n - k) % n
theorem spot_lt {n i k : Nat} (h : i < n) : spot n i k < n := Nat.mod_lt _ (by omega)
theorem spot_back {n i k : Nat} (hi : i < n) (hk : k < n) : (spot n i k + k) % n = i := by
  unfold spot
  rcases Nat.lt_or_ge i k with h | h
  · rw [Nat.mod_eq_of_lt (by omega : i + n - k < n), show i + n - k + k = i + n by omega, Nat.add_mod_right, Nat.mod_eq_of_lt hi]
  · rw [show i + n - k = (i - k) + n by omega, Nat.add_mod_right, Nat.mod_eq_of_lt (by omega : i - k < n), show i - k + k = i by omega, Nat.mod_eq_of_lt hi]
theorem nth_rot {l : List Int} {i k : Nat} (hi : i < l.length) (hk : k < l.length) : nth (rot l k) (spot l.length i k) = nth l i := by
  have h1 := rot_get hk (spot_lt (k := k) hi)
  rw [spot_back hi hk, nth_get hi] at h1
  exact nth_of h1
section
variable {N : Int} {arcs : List Arc} {k i : Nat}
theorem Opt.unit_max {c : Int} {x q y : List Int} (h : Opt N arcs (unit arcs.length i c) x q) (hV : Valid N arcs) (hi : i < arcs.length) (hy : Circ arcs y) : c * nth y i ≤ c * nth x i := by
  have h1 := h.max hV (unit_length ..) hy
  rwa [dot_unit (k := c) arcs.length i x hi (nth_get (by have := h.circ.bds.1; omega)), dot_unit (k := c) arcs.length i y hi (nth_get (by have := hy.bds.1; omega))] at h1
/-- The range of an arc does not depend on the order. -/
theorem RaR.turn {lo hi lo' hi' e e' : Int} (hk : k < arcs.length) (hi0 : i < arcs.length) (h1 : RaR N arcs i lo hi e) (h2 : RaR N (rot arcs k) (spot arcs.length i k) lo' hi' e') : lo = lo' ∧ hi = hi' ∧ e = e' := by
  have hs := spot_lt (k := k) hi0
  have ea : aski N (rot arcs k) (spot arcs.length i k) = aski N arcs i := by
    have b1 : inb arcs i = true := decide_eq_true (by omega)
    have b2 : inb (rot arcs k) (spot arcs.length i k) = true := decide_eq_true (by rw [rot_len]; omega)
    rw [aski, aski, askd, askd, chk_rot, b1, b2]
  cases h1 with
  | bad g1 =>
    cases h2 with
    | bad => exact ⟨rfl, rfl, ea.symm⟩
    | no g _ => exact absurd (ea.symm.trans g) g1
    | yes g _ _ => exact absurd (ea.symm.trans g) g1
  | no g0 g1 =>
    have hV := (aski_zero.1 g0).1
    cases h2 with
    | bad g => exact absurd (ea.trans g0) g
    | no => exact ⟨rfl, rfl, rfl⟩
    | yes _ g _ => exact (g1.no hV (g.circ.unrot (by omega))).elim
  | yes g0 g1 g2 =>
    rename_i x q y r
    have hV := (aski_zero.1 g0).1
    cases h2 with
    | bad g => exact absurd (ea.trans g0) g
    | no _ g => exact (g.no hV.rot g1.circ.rot).elim
    | yes g9 f1 f2 =>
      rename_i x' q' y' r'
      simp only [Int.toNat_natCast] at *
      have l1 := g1.circ.bds.1
      have l2 := g2.circ.bds.1
      have l3 := f1.circ.bds.1
      have l4 := f2.circ.bds.1
      rw [rot_len] at l3 l4
      have hs' : spot arcs.length i k < (rot arcs k).length := by rw [rot_len]; exact hs
      have a1 := f1.unit_max hV.rot hs' (g1.circ.rot (k := k))
      have a2 := f2.unit_max hV.rot hs' (g2.circ.rot (k := k))
      have a3 := g1.unit_max hV hi0 (f1.circ.unrot (by omega))
      have a4 := g2.unit_max hV hi0 (f2.circ.unrot (by omega))
      have b1 := nth_rot (l := x) (i := i) (k := k) (by omega) (by omega)
      have b2 := nth_rot (l := y) (i := i) (k := k) (by omega) (by omega)
      have b3 := nth_rot (l := rot x' (arcs.length - k)) (i := i) (k := k) (by rw [rot_len]; omega) (by rw [rot_len]; omega)
      have b4 := nth_rot (l := rot y' (arcs.length - k)) (i := i) (k := k) (by rw [rot_len]; omega) (by rw [rot_len]; omega)
      rw [rot_len, show arcs.length - k = x'.length - k by omega, rot_rot' (by omega), l3] at b3
      rw [rot_len, show arcs.length - k = y'.length - k by omega, rot_rot' (by omega), l4] at b4
      rw [l1] at b1
      rw [l2] at b2
      exact ⟨by omega, by omega, trivial⟩
end
theorem take_one {α : Type} {l : List α} {j : Nat} {a : α} (h : l[j]? = some a) : l.take (j + 1) = l.take j ++ [a] := by rw [List.take_add_one, h]; rfl
theorem pre_all {α : Type} {l : List α} {z : α} {j : Nat} (h : j = l.length) : pre l z j = l := by subst h; exact pre_full
theorem rem_cast {j k n : Nat} : ((j : Int) + (k : Int)) % (n : Int) = (((j + k) % n : Nat) : Int) := by rw [Int.natCast_emod, Int.natCast_add]
theorem spot_cast {i : Int} {i' k n : Nat} (hi : i = i') (hk : k ≤ n) : (i + (n : Int) - (k : Int)) % (n : Int) = ((spot n i' k : Nat) : Int) := by
  rw [spot, Int.natCast_emod]; congr 1; omega
end Go.Vk.Flow

/- Nets, as plain mathematics, part 15: what can be reached. No program in sight. -/
namespace Go.Vk.Flow
open Go

/-! ### lists of marks -/
def Mono (B C : List Bool) : Prop := ∀ u : Nat, B[u]? = some true → C[u]? = some true
theorem count_mono : ∀ (B C : List Bool), B.length = C.length → Mono B C → C.count false ≤ B.count false := by
  intro B
  induction B with
  | nil => intro C h _; cases C with
    | nil => simp
    | cons => simp at h
  | cons b B ih => intro C h hm; cases C with
    | nil => simp at h
    | cons c C =>
      have h1 := ih C (by simpa using h) fun u hu => hm (u + 1) hu
      have h2 := hm 0
      cases b <;> cases c <;> simp_all <;> omega
theorem count_setF : ∀ (B : List Bool) (v : Nat), B[v]? = some false → (B.set v true).count false + 1 = B.count false := by
  intro B
  induction B with
  | nil => intro v h; simp at h
  | cons b B ih => intro v h; cases v with
    | zero => simp at h; subst h; simp
    | succ v =>
      have h1 := ih v (by simpa using h)
      simp only [List.set_cons_succ, List.count_cons]; omega
theorem set_true {B : List Bool} {v u : Nat} (h : v < B.length) : (B.set v true)[u]? = some true ↔ u = v ∨ B[u]? = some true := by
  rw [List.getElem?_set]
  constructor
  · intro h1
    split at h1
    · exact .inl (by omega)
    · exact .inr h1
  · rintro (rfl | h1)
    · rw [if_pos rfl, if_pos h]
    · split
      · rfl
      · exact h1

/-! ### a search in depth -/
/-- What can be reached along the lists, without one arc. -/
inductive Go' (ls : List (List Stp)) (k : Int) (v : Nat) : Nat → Prop
  | refl : Go' ls k v v
  | step {u : Nat} {s : Stp} {l : List Stp} : Go' ls k v u → ls[u]? = some l → s ∈ l → s.arc ≠ k → Go' ls k v s.dst.toNat
theorem Go'.trans {ls : List (List Stp)} {k : Int} {v u w : Nat} (h1 : Go' ls k v u) (h2 : Go' ls k u w) : Go' ls k v w := by
  induction h2 with
  | refl => exact h1
  | step _ a b c ih => exact .step ih a b c
def Clo (ls : List (List Stp)) (k : Int) (C : List Bool) (u : Nat) : Prop := ∀ (l : List Stp) (s : Stp), ls[u]? = some l → s ∈ l → s.arc ≠ k → C[s.dst.toNat]? = some true
structure Dfs (ls : List (List Stp)) (k : Int) (v : Nat) (B C : List Bool) : Prop where
  len : C.length = B.length
  mono : Mono B C
  at' : C[v]? = some true
  new : ∀ u : Nat, C[u]? = some true → ¬ B[u]? = some true → Go' ls k v u ∧ Clo ls k C u
/-- In the midst of a node's list. -/
structure DfsI (ls : List (List Stp)) (k : Int) (v : Nat) (l : List Stp) (i : Nat) (B C : List Bool) : Prop where
  len : C.length = B.length
  mono : Mono (B.set v true) C
  done : ∀ s ∈ l.take i, s.arc ≠ k → C[s.dst.toNat]? = some true
  new : ∀ u : Nat, C[u]? = some true → ¬ (B.set v true)[u]? = some true → Go' ls k v u ∧ Clo ls k C u
section
variable {ls : List (List Stp)} {k : Int} {v i : Nat} {l : List Stp} {B C D : List Bool} {s : Stp}
theorem Dfs.same (h : B[v]? = some true) : Dfs ls k v B B := ⟨rfl, fun _ h => h, h, fun _ h1 h2 => absurd h1 h2⟩
theorem DfsI.start : DfsI ls k v l 0 B (B.set v true) := ⟨List.length_set .., fun _ h => h, by simp, fun _ h1 h2 => absurd h1 h2⟩
theorem DfsI.count (h : DfsI ls k v l i B C) (hB : B[v]? = some false) : C.count false < B.count false := by
  have h1 := count_mono _ _ (by rw [List.length_set, h.len]) h.mono
  have h2 := count_setF B v hB
  omega
theorem DfsI.skip (h : DfsI ls k v l i B C) (hs : l[i]? = some s) (hk : s.arc = k) : DfsI ls k v l (i + 1) B C := by
  refine ⟨h.len, h.mono, fun t ht hne => ?_, h.new⟩
  rw [List.take_add_one, hs] at ht
  rcases List.mem_append.1 ht with ht | ht
  · exact h.done t ht hne
  · simp at ht; subst ht; exact absurd hk hne
theorem DfsI.visit (h : DfsI ls k v l i B C) (hl : ls[v]? = some l) (hs : l[i]? = some s) (hk : ¬ s.arc = k) (hd : Dfs ls k s.dst.toNat C D) : DfsI ls k v l (i + 1) B D := by
  refine ⟨hd.len.trans h.len, fun u hu => hd.mono u (h.mono u hu), fun t ht hne => ?_, fun u hu hn => ?_⟩
  · rw [List.take_add_one, hs] at ht
    rcases List.mem_append.1 ht with ht | ht
    · exact hd.mono _ (h.done t ht hne)
    · simp at ht; subst ht; exact hd.at'
  · by_cases hc : C[u]? = some true
    · obtain ⟨h1, h2⟩ := h.new u hc hn
      exact ⟨h1, fun l' t a b c => hd.mono _ (h2 l' t a b c)⟩
    · obtain ⟨h1, h2⟩ := hd.new u hu hc
      exact ⟨(Go'.step .refl hl (List.mem_of_getElem? hs) hk).trans h1, h2⟩
theorem DfsI.fin (h : DfsI ls k v l l.length B C) (hl : ls[v]? = some l) (hB : B[v]? = some false) : Dfs ls k v B C := by
  have hv : v < B.length := (List.getElem?_eq_some_iff.1 hB).1
  refine ⟨h.len, fun u hu => h.mono u ((set_true hv).2 (.inr hu)), h.mono v ((set_true hv).2 (.inl rfl)), fun u hu hn => ?_⟩
  by_cases e : u = v
  · subst e
    refine ⟨.refl, fun l' t a b c => ?_⟩
    rw [hl] at a; cases a
    exact h.done t (by rw [List.take_length]; exact b) c
  · exact h.new u hu fun hh => ((set_true hv).1 hh).elim e hn
/-- A search from nothing finds what can be reached. -/
theorem Dfs.all {n : Nat} (h : Dfs ls k v (List.replicate n false) C) (u : Nat) : C[u]? = some true ↔ Go' ls k v u := by
  have hno : ∀ u : Nat, ¬ (List.replicate n false)[u]? = some true := fun u => by rw [List.getElem?_replicate]; split <;> simp
  constructor
  · intro hu; exact (h.new u hu (hno u)).1
  · intro hg
    induction hg with
    | refl => exact h.at'
    | step _ a b c ih => exact (h.new _ ih (hno _)).2 _ _ a b c
end

/-! ### in terms of arcs -/
/-- One unit more can be led along an arc, forward or backward, to another node; arc k is left out. -/
def Hop (arcs : List Arc) (x : List Int) (k : Int) (u w : Nat) : Prop :=
  ∃ (i : Nat) (a : Arc) (y : Int), arcs[i]? = some a ∧ x[i]? = some y ∧ (i : Int) ≠ k ∧ ((y < a.hi ∧ a.src.toNat = u ∧ a.dst.toNat = w) ∨ (a.lo < y ∧ a.dst.toNat = u ∧ a.src.toNat = w))
inductive Rch (arcs : List Arc) (x : List Int) (k : Int) (v : Nat) : Nat → Prop
  | refl : Rch arcs x k v v
  | step {u w : Nat} : Rch arcs x k v u → Hop arcs x k u w → Rch arcs x k v w
section
variable {N : Int} {arcs : List Arc} {x wl : List Int} {p : Nat → Int} {k : Int} {v : Nat}
theorem hop_stp (hV : Valid N arcs) (hl : wl.length = arcs.length) {u w : Nat} (hu : u < N.toNat) : Hop arcs x k u w ↔ ∃ l s, (byl N (stps p 0 arcs x wl))[u]? = some l ∧ s ∈ l ∧ s.arc ≠ k ∧ s.dst.toNat = w := by
  constructor
  · rintro ⟨i, a, y, ha, hy, hk, h⟩
    obtain ⟨q, hq⟩ : ∃ q, wl[i]? = some q := ⟨_, List.getElem?_eq_getElem (by have := (List.getElem?_eq_some_iff.1 ha).1; omega)⟩
    have hok := hV.at ha
    rcases h with ⟨h1, h2, h3⟩ | ⟨h1, h2, h3⟩
    · refine ⟨_, fwd p i a q, byl_get hu, List.mem_filter.2 ⟨mem_stps_of ha hy hq (mem_stp1.2 (.inl ⟨h1, rfl⟩)), decide_eq_true ?_⟩, hk, h3⟩
      show a.src = (u : Int); omega
    · refine ⟨_, bwd p i a q, byl_get hu, List.mem_filter.2 ⟨mem_stps_of ha hy hq (mem_stp1.2 (.inr ⟨h1, rfl⟩)), decide_eq_true ?_⟩, hk, h3⟩
      show a.dst = (u : Int); omega
  · rintro ⟨l, s, hl', hs, hk, hd⟩
    rw [byl_get hu] at hl'
    cases hl'
    obtain ⟨hs, hsrc⟩ := List.mem_filter.1 hs
    have hsrc := of_decide_eq_true hsrc
    obtain ⟨i, a, y, q, ha, hy, hq, h⟩ := mem_stps hs
    rw [Nat.zero_add] at h
    rcases mem_stp1.1 h with ⟨h1, rfl⟩ | ⟨h1, rfl⟩
    · exact ⟨i, a, y, ha, hy, hk, .inl ⟨h1, by have : a.src = (u : Int) := hsrc; omega, hd⟩⟩
    · exact ⟨i, a, y, ha, hy, hk, .inr ⟨h1, by have : a.dst = (u : Int) := hsrc; omega, hd⟩⟩
theorem hop_lt (hV : Valid N arcs) {u w : Nat} (h : Hop arcs x k u w) : u < N.toNat ∧ w < N.toNat := by
  obtain ⟨i, a, y, ha, _, _, h⟩ := h
  have hok := hV.at ha
  omega
theorem Go'.rch (hV : Valid N arcs) (hl : wl.length = arcs.length) {u : Nat} : Go' (byl N (stps p 0 arcs x wl)) k v u ↔ Rch arcs x k v u := by
  constructor
  · intro h
    induction h with
    | refl => exact .refl
    | @step u s l h a b c ih =>
      have hu : u < N.toNat := by
        have := (List.getElem?_eq_some_iff.1 a).1
        simpa [byl] using this
      exact .step ih ((hop_stp hV hl hu).2 ⟨l, s, a, b, c, rfl⟩)
  · intro h
    induction h with
    | refl => exact .refl
    | step _ a ih =>
      obtain ⟨l, s, h1, h2, h3, rfl⟩ := (hop_stp hV hl (hop_lt hV a).1).1 a
      exact .step ih h1 h2 h3
end

/-! ### the nodes that are marked -/
def ups (C : List Bool) : Nat → List Int
  | 0 => []
  | i + 1 => if C[i]? = some true then ups C i ++ [(i : Int)] else ups C i
theorem ups_len (C : List Bool) : ∀ i, (ups C i).length ≤ i := by
  intro i
  induction i with
  | zero => simp [ups]
  | succ i ih =>
    simp only [ups]
    split
    · rw [List.length_append, List.length_singleton]; omega
    · omega
theorem ups_ext {C D : List Bool} (h : ∀ u : Nat, C[u]? = some true ↔ D[u]? = some true) : ∀ i, ups C i = ups D i := by
  intro i
  induction i with
  | zero => rfl
  | succ i ih =>
    simp only [ups, ih]
    by_cases hc : C[i]? = some true
    · rw [if_pos hc, if_pos ((h i).1 hc)]
    · rw [if_neg hc, if_neg fun hh => hc ((h i).2 hh)]

/-! ### what Reach answers -/
def askz (N : Int) (arcs : List Arc) (x : List Int) (z : Int) : Int := askd N arcs (row x arcs.length 0 1000000 && decide (0 ≤ z ∧ z ≤ N - 1))
theorem askz_zero {N : Int} {arcs : List Arc} {x : List Int} {z : Int} : askz N arcs x z = 0 ↔ Valid N arcs ∧ Amts arcs x ∧ 0 ≤ z ∧ z < N := by
  rw [askz, askd_zero, Bool.and_eq_true, row_amts, decide_eq_true_eq]
  constructor
  · rintro ⟨h1, h2, h3⟩; exact ⟨h1, h2, by omega⟩
  · rintro ⟨h1, h2, h3⟩; exact ⟨h1, h2, by omega⟩
def Marks (arcs : List Arc) (x : List Int) (z : Int) (D : List Bool) : Prop := ∀ u : Nat, D[u]? = some true ↔ Rch arcs x (-1) z.toNat u
inductive RchR (N : Int) (arcs : List Arc) (x : List Int) (z : Int) : List Int → Int → Prop
  | bad : askz N arcs x z ≠ 0 → RchR N arcs x z [] (askz N arcs x z)
  | no : askz N arcs x z = 0 → ¬ kept 1000 arcs x = true → RchR N arcs x z [] 60
  | yes {D : List Bool} : askz N arcs x z = 0 → kept 1000 arcs x = true → Marks arcs x z D → RchR N arcs x z (ups D N.toNat) 0
section
variable {N : Int} {arcs : List Arc} {x wl : List Int} {z : Int} {p : Nat → Int}
theorem RchR.same {l l' : List Int} {e e' : Int} (h : RchR N arcs x z l e) (h' : RchR N arcs x z l' e') : l = l' ∧ e = e' := by
  cases h with
  | bad g =>
    cases h' with
    | bad => exact ⟨rfl, rfl⟩
    | no g' => exact absurd g' g
    | yes g' => exact absurd g' g
  | no g k =>
    cases h' with
    | bad g' => exact absurd g g'
    | no => exact ⟨rfl, rfl⟩
    | yes _ k' => exact absurd k' k
  | yes g k d =>
    cases h' with
    | bad g' => exact absurd g g'
    | no _ k' => exact absurd k k'
    | yes _ _ d' => exact ⟨ups_ext (fun u => (d u).trans (d' u).symm) _, rfl⟩
theorem RchR.len {l : List Int} {e : Int} (h : RchR N arcs x z l e) : l.length ≤ 1000 := by
  cases h with
  | bad => exact Nat.zero_le _
  | no => exact Nat.zero_le _
  | @yes D g k d => have h1 := ups_len D N.toNat; have h2 := (askz_zero.1 g).1.max; omega
theorem Dfs.marks {D : List Bool} (hV : Valid N arcs) (hl : wl.length = arcs.length) (h : Dfs (byl N (stps p 0 arcs x wl)) (-1) z.toNat (List.replicate N.toNat false) D) : Marks arcs x z D :=
  fun u => (h.all u).trans (Go'.rch hV hl)

/-- Nothing is added by one arc. -/
def Half1 (arcs : List Arc) (x : List Int) (D : List Bool) (i : Nat) : Prop := ∀ (a : Arc) (y : Int), arcs[i]? = some a → x[i]? = some y → y < a.hi → D[a.src.toNat]? = some true → D[a.dst.toNat]? = some true
def Half2 (arcs : List Arc) (x : List Int) (D : List Bool) (i : Nat) : Prop := ∀ (a : Arc) (y : Int), arcs[i]? = some a → x[i]? = some y → a.lo < y → D[a.dst.toNat]? = some true → D[a.src.toNat]? = some true
structure RI (N : Int) (arcs : List Arc) (x : List Int) (z : Int) (D : List Bool) : Prop where
  len : D.length = N.toNat
  at' : D[z.toNat]? = some true
  sound : ∀ u : Nat, D[u]? = some true → Rch arcs x (-1) z.toNat u
/-- Within a round: m: whether the first half of the arc i is behind us. -/
structure RJ (N : Int) (arcs : List Arc) (x : List Int) (z : Int) (D0 : List Bool) (i : Nat) (m : Prop) (D : List Bool) (ch : Bool) : Prop where
  ri : RI N arcs x z D
  mono : Mono D0 D
  same : ch = false → D = D0 ∧ (∀ j : Nat, j < i → Half1 arcs x D0 j ∧ Half2 arcs x D0 j) ∧ (m → Half1 arcs x D0 i)
  less : ch = true → D.count false < D0.count false
section
variable {D0 D : List Bool} {i : Nat} {m : Prop} {ch : Bool} {a : Arc} {y : Int}
theorem RI.start (hz : 0 ≤ z ∧ z < N) : RI N arcs x z ((List.replicate N.toNat false).set z.toNat true) := by
  have h1 : z.toNat < (List.replicate N.toNat false).length := by rw [List.length_replicate]; omega
  refine ⟨by rw [List.length_set, List.length_replicate], (set_true h1).2 (.inl rfl), fun u hu => ?_⟩
  rcases (set_true h1).1 hu with rfl | h
  · exact .refl
  · rw [List.getElem?_replicate] at h; split at h <;> simp at h
theorem RJ.start (h : RI N arcs x z D) : RJ N arcs x z D 0 False D false := ⟨h, fun _ h => h, fun _ => ⟨rfl, fun j hj => absurd hj (Nat.not_lt_zero j), fun h => h.elim⟩, fun h => by cases h⟩
theorem RI.put (h : RI N arcs x z D) {u w : Nat} (hu : D[u]? = some true) (hop : Hop arcs x (-1) u w) (hw : D[w]? = some false) : RI N arcs x z (D.set w true) := by
  have h1 := (List.getElem?_eq_some_iff.1 hw).1
  refine ⟨by rw [List.length_set]; exact h.len, (set_true h1).2 (.inr h.at'), fun v hv => ?_⟩
  rcases (set_true h1).1 hv with rfl | hv
  · exact .step (h.sound u hu) hop
  · exact h.sound v hv
theorem RJ.put (h : RJ N arcs x z D0 i m D ch) {u w : Nat} (hu : D[u]? = some true) (hop : Hop arcs x (-1) u w) (hw : D[w]? = some false) {i' : Nat} {m' : Prop} : RJ N arcs x z D0 i' m' (D.set w true) true := by
  have h1 := (List.getElem?_eq_some_iff.1 hw).1
  refine ⟨h.ri.put hu hop hw, fun v hv => (set_true h1).2 (.inr (h.mono v hv)), fun hh => (by cases hh), fun _ => ?_⟩
  have h2 := count_setF D w hw
  have h3 : D.count false ≤ D0.count false := by
    cases ch
    · rw [(h.same rfl).1]; exact Nat.le_refl _
    · exact Nat.le_of_lt (h.less rfl)
  omega
theorem RJ.put1 (h : RJ N arcs x z D0 i m D ch) (ha : arcs[i]? = some a) (hy : x[i]? = some y) (h1 : y < a.hi) (hu : D[a.src.toNat]? = some true) (hw : D[a.dst.toNat]? = some false) : RJ N arcs x z D0 i True (D.set a.dst.toNat true) true :=
  h.put hu ⟨i, a, y, ha, hy, by omega, .inl ⟨h1, rfl, rfl⟩⟩ hw
theorem RJ.put2 (h : RJ N arcs x z D0 i m D ch) (ha : arcs[i]? = some a) (hy : x[i]? = some y) (h1 : a.lo < y) (hu : D[a.dst.toNat]? = some true) (hw : D[a.src.toNat]? = some false) : RJ N arcs x z D0 (i + 1) False (D.set a.src.toNat true) true :=
  h.put hu ⟨i, a, y, ha, hy, by omega, .inr ⟨h1, rfl, rfl⟩⟩ hw
theorem RJ.no1 (h : RJ N arcs x z D0 i m D ch) (ha : arcs[i]? = some a) (hy : x[i]? = some y) (hn : ¬ (y < a.hi ∧ D[a.src.toNat]? = some true ∧ ¬ D[a.dst.toNat]? = some true)) : RJ N arcs x z D0 i True D ch := by
  refine ⟨h.ri, h.mono, fun hc => ?_, h.less⟩
  obtain ⟨e, h1, _⟩ := h.same hc
  subst e
  refine ⟨rfl, h1, fun _ b q hb hq hlt hs => ?_⟩
  rw [ha] at hb; cases hb
  rw [hy] at hq; cases hq
  exact Decidable.byContradiction fun hh => hn ⟨hlt, hs, hh⟩
theorem RJ.no2 (h : RJ N arcs x z D0 i True D ch) (ha : arcs[i]? = some a) (hy : x[i]? = some y) (hn : ¬ (a.lo < y ∧ D[a.dst.toNat]? = some true ∧ ¬ D[a.src.toNat]? = some true)) : RJ N arcs x z D0 (i + 1) False D ch := by
  refine ⟨h.ri, h.mono, fun hc => ?_, h.less⟩
  obtain ⟨e, h1, h2⟩ := h.same hc
  subst e
  refine ⟨rfl, fun j hj => ?_, fun h => h.elim⟩
  rcases Nat.lt_or_ge j i with hji | hji
  · exact h1 j hji
  · have e : j = i := by omega
    subst e
    refine ⟨h2 trivial, fun b q hb hq hlt hs => ?_⟩
    rw [ha] at hb; cases hb
    rw [hy] at hq; cases hq
    exact Decidable.byContradiction fun hh => hn ⟨hlt, hs, hh⟩
theorem RJ.mu (h : RJ N arcs x z D0 i m D ch) : 2 * D.count false + (if ch = true then 1 else 0) < 2 * D0.count false + 1 := by
  cases ch with
  | true => have := h.less rfl; rw [if_pos rfl]; omega
  | false => rw [(h.same rfl).1]; simp
theorem RJ.closed (h : RJ N arcs x z D0 arcs.length m D ch) (hc : ch = false) : ∀ j : Nat, j < arcs.length → Half1 arcs x D j ∧ Half2 arcs x D j := by
  obtain ⟨e, h1, _⟩ := h.same hc
  rw [e]; exact h1
/-- When a round adds nothing all is found. -/
theorem RI.marks (h : RI N arcs x z D) (hc : ∀ j : Nat, j < arcs.length → Half1 arcs x D j ∧ Half2 arcs x D j) : Marks arcs x z D := by
  intro u
  refine ⟨h.sound u, fun hr => ?_⟩
  induction hr with
  | refl => exact h.at'
  | step _ hop ih =>
    obtain ⟨i, a, y, ha, hy, _, hh⟩ := hop
    have hi := (List.getElem?_eq_some_iff.1 ha).1
    rcases hh with ⟨h1, rfl, rfl⟩ | ⟨h1, rfl, rfl⟩
    · exact (hc i hi).1 a y ha hy h1 ih
    · exact (hc i hi).2 a y ha hy h1 ih
end
end
end Go.Vk.Flow

/- Nets, as plain mathematics, part 16: arcs that have one amount alone. No program in sight. -/
namespace Go.Vk.Flow
open Go

section
variable {N : Int} {arcs : List Arc} {x y z q : List Int} {i : Nat} {a : Arc} {k : Int}
theorem unit_at {n i j : Nat} {k r : Int} (h : (unit n i k)[j]? = some r) : (j = i → r = k) ∧ (j ≠ i → r = 0) := by
  rw [unit, List.getElem?_set] at h
  by_cases e : i = j
  · subst e
    rw [if_pos rfl] at h
    split at h
    · cases h; exact ⟨fun _ => rfl, fun h => absurd rfl h⟩
    · cases h
  · rw [if_neg e, List.getElem?_replicate] at h
    split at h
    · cases h; exact ⟨fun h => absurd h.symm e, fun _ => rfl⟩
    · cases h
theorem unit_get {n i j : Nat} {k : Int} (h : j < n) : (unit n i k)[j]? = some (if j = i then k else 0) := by
  obtain ⟨r, hr⟩ : ∃ r, (unit n i k)[j]? = some r := ⟨_, List.getElem?_eq_getElem (by rw [unit_length]; exact h)⟩
  rw [hr]
  split
  · next e => rw [(unit_at hr).1 e]
  · next e => rw [(unit_at hr).2 e]
/-- Along what can be reached the potentials of a proof do not fall. -/
theorem Rch.pot (hs : Slack q arcs x (unit arcs.length i k)) {u v : Nat} (h : Rch arcs x (i : Int) u v) : nth q u ≤ nth q v := by
  induction h with
  | refl => exact Int.le_refl _
  | step _ hop ih =>
    obtain ⟨j, b, c, hb, hc, hj, hh⟩ := hop
    have hjl := (List.getElem?_eq_some_iff.1 hb).1
    have hu := unit_get (i := i) (k := k) hjl
    rw [if_neg (by omega)] at hu
    have h1 := hs j b c 0 hb hc hu
    unfold rst at h1
    rcases hh with ⟨h2, rfl, rfl⟩ | ⟨h2, rfl, rfl⟩
    · have : ¬ 0 < 0 + nth q b.src.toNat - nth q b.dst.toNat := fun h => by have := h1.1 h; omega
      omega
    · have : ¬ 0 + nth q b.src.toNat - nth q b.dst.toNat < 0 := fun h => by have := h1.2 h; omega
      omega
/-- If one unit more can be led back, the arc's amount is not the greatest. -/
theorem fix_more (hV : Valid N arcs) (hx : Circ arcs x) (ha : arcs[i]? = some a) (hk : x[i]? = some k) (hlt : k < a.hi) (hr : Rch arcs x (i : Int) a.dst.toNat a.src.toNat) (ho : Opt N arcs (unit arcs.length i 1) y q) : k < nth y i := by
  have hi := (List.getElem?_eq_some_iff.1 ha).1
  refine Classical.byContradiction fun hc => ?_
  have hs : Slack q arcs x (unit arcs.length i 1) := ho.other hV (unit_length ..) hx (by
    rw [ho.unit_eq hi, dot_unit arcs.length i x hi hk]; omega)
  have h1 := Rch.pot hs hr
  have hu := unit_get (i := i) (k := 1) hi
  rw [if_pos rfl] at hu
  have h2 := (hs i a k 1 ha hk hu).1
  unfold rst at h2
  have : ¬ 0 < 1 + nth q a.src.toNat - nth q a.dst.toNat := fun h => by have := h2 h; omega
  omega
theorem fix_less (hV : Valid N arcs) (hx : Circ arcs x) (ha : arcs[i]? = some a) (hk : x[i]? = some k) (hlt : a.lo < k) (hr : Rch arcs x (i : Int) a.src.toNat a.dst.toNat) (ho : Opt N arcs (unit arcs.length i (-1)) y q) : nth y i < k := by
  have hi := (List.getElem?_eq_some_iff.1 ha).1
  refine Classical.byContradiction fun hc => ?_
  have hs : Slack q arcs x (unit arcs.length i (-1)) := ho.other hV (unit_length ..) hx (by
    rw [ho.unit_eq hi, dot_unit arcs.length i x hi hk]; omega)
  have h1 := Rch.pot hs hr
  have hu := unit_get (i := i) (k := -1) hi
  rw [if_pos rfl] at hu
  have h2 := (hs i a k (-1) ha hk hu).2
  unfold rst at h2
  have : ¬ -1 + nth q a.src.toNat - nth q a.dst.toNat < 0 := fun h => by have := h2 h; omega
  omega

/-! ### the other way round: what can be reached is a cut -/
open Classical in
noncomputable def mkp (N : Int) (c : Int) (R : Nat → Prop) : List Int := (List.range N.toNat).map fun v => if R v then c else 0
open Classical in
theorem mkp_nth {c : Int} {R : Nat → Prop} {v : Nat} (h : v < N.toNat) : (R v → nth (mkp N c R) v = c) ∧ (¬ R v → nth (mkp N c R) v = 0) := by
  have h1 : (mkp N c R)[v]? = some (if R v then c else 0) := by simp [mkp, h]
  have h2 := nth_of h1
  exact ⟨fun hh => by rw [h2, if_pos hh], fun hh => by rw [h2, if_neg hh]⟩
theorem mkp_pts (hN : 1 ≤ N) {c : Int} (hc : -1 ≤ c ∧ c ≤ 1) {R : Nat → Prop} : Pts N (mkp N c R) := by
  refine ⟨by simp [mkp]; omega, fun y hy => ?_⟩
  simp only [mkp, List.mem_map] at hy
  obtain ⟨v, _, rfl⟩ := hy
  split <;> omega
/-- A cut that shows that an arc's amount is the greatest. -/
theorem fix_max (hV : Valid N arcs) (hx : Circ arcs x) (ha : arcs[i]? = some a) (hk : x[i]? = some k) (hn : ¬ (k < a.hi ∧ Rch arcs x (i : Int) a.dst.toNat a.src.toNat)) (hy : Circ arcs y) : nth y i ≤ k := by
  have hi := (List.getElem?_eq_some_iff.1 ha).1
  by_cases hlt : k < a.hi
  · have hr : ¬ Rch arcs x (i : Int) a.dst.toNat a.src.toNat := fun h => hn ⟨hlt, h⟩
    have ho : Opt N arcs (unit arcs.length i 1) x (mkp N 1 (Rch arcs x (i : Int) a.dst.toNat)) := by
      refine ⟨hx, mkp_pts hV.pos (by omega), fun j b c r hb hc hr' => ?_⟩
      have hok := hV.at hb
      have hok2 := hV.at ha
      have p1 := mkp_nth (N := N) (c := 1) (R := Rch arcs x (i : Int) a.dst.toNat) (v := b.src.toNat) (by omega)
      have p2 := mkp_nth (N := N) (c := 1) (R := Rch arcs x (i : Int) a.dst.toNat) (v := b.dst.toNat) (by omega)
      have hbd := hx.bds.2 j b c hb hc
      unfold rst
      by_cases e : j = i
      · subst e
        rw [ha] at hb; cases hb
        rw [(unit_at hr').1 rfl, p1.2 hr, p2.1 .refl]
        omega
      · rw [(unit_at hr').2 e]
        have hji : (j : Int) ≠ (i : Int) := by omega
        by_cases h1 : Rch arcs x (i : Int) a.dst.toNat b.src.toNat
        · by_cases h2 : Rch arcs x (i : Int) a.dst.toNat b.dst.toNat
          · rw [p1.1 h1, p2.1 h2]; omega
          · rw [p1.1 h1, p2.2 h2]
            have : ¬ c < b.hi := fun h => h2 (.step h1 ⟨j, b, c, hb, hc, hji, .inl ⟨h, rfl, rfl⟩⟩)
            omega
        · by_cases h2 : Rch arcs x (i : Int) a.dst.toNat b.dst.toNat
          · rw [p1.2 h1, p2.1 h2]
            have : ¬ b.lo < c := fun h => h1 (.step h2 ⟨j, b, c, hb, hc, hji, .inr ⟨h, rfl, rfl⟩⟩)
            omega
          · rw [p1.2 h1, p2.2 h2]; omega
    have h1 := ho.max hV (unit_length ..) hy
    obtain ⟨m, hm⟩ : ∃ m, y[i]? = some m := ⟨_, List.getElem?_eq_getElem (by rw [hy.bds.1]; exact hi)⟩
    rw [dot_unit arcs.length i y hi hm, dot_unit arcs.length i x hi hk] at h1
    rw [nth_of hm]; omega
  · obtain ⟨m, hm⟩ : ∃ m, y[i]? = some m := ⟨_, List.getElem?_eq_getElem (by rw [hy.bds.1]; exact hi)⟩
    have h1 := hy.bds.2 i a m ha hm
    have h2 := hx.bds.2 i a k ha hk
    rw [nth_of hm]; omega
theorem fix_min (hV : Valid N arcs) (hx : Circ arcs x) (ha : arcs[i]? = some a) (hk : x[i]? = some k) (hn : ¬ (a.lo < k ∧ Rch arcs x (i : Int) a.src.toNat a.dst.toNat)) (hy : Circ arcs y) : k ≤ nth y i := by
  have hi := (List.getElem?_eq_some_iff.1 ha).1
  by_cases hlt : a.lo < k
  · have hr : ¬ Rch arcs x (i : Int) a.src.toNat a.dst.toNat := fun h => hn ⟨hlt, h⟩
    have ho : Opt N arcs (unit arcs.length i (-1)) x (mkp N 1 (Rch arcs x (i : Int) a.src.toNat)) := by
      refine ⟨hx, mkp_pts hV.pos (by omega), fun j b c r hb hc hr' => ?_⟩
      have hok := hV.at hb
      have hok2 := hV.at ha
      have p1 := mkp_nth (N := N) (c := 1) (R := Rch arcs x (i : Int) a.src.toNat) (v := b.src.toNat) (by omega)
      have p2 := mkp_nth (N := N) (c := 1) (R := Rch arcs x (i : Int) a.src.toNat) (v := b.dst.toNat) (by omega)
      have hbd := hx.bds.2 j b c hb hc
      unfold rst
      by_cases e : j = i
      · subst e
        rw [ha] at hb; cases hb
        rw [(unit_at hr').1 rfl, p2.2 hr, p1.1 .refl]
        omega
      · rw [(unit_at hr').2 e]
        have hji : (j : Int) ≠ (i : Int) := by omega
        by_cases h1 : Rch arcs x (i : Int) a.src.toNat b.src.toNat
        · by_cases h2 : Rch arcs x (i : Int) a.src.toNat b.dst.toNat
          · rw [p1.1 h1, p2.1 h2]; omega
          · rw [p1.1 h1, p2.2 h2]
            have : ¬ c < b.hi := fun h => h2 (.step h1 ⟨j, b, c, hb, hc, hji, .inl ⟨h, rfl, rfl⟩⟩)
            omega
        · by_cases h2 : Rch arcs x (i : Int) a.src.toNat b.dst.toNat
          · rw [p1.2 h1, p2.1 h2]
            have : ¬ b.lo < c := fun h => h1 (.step h2 ⟨j, b, c, hb, hc, hji, .inr ⟨h, rfl, rfl⟩⟩)
            omega
          · rw [p1.2 h1, p2.2 h2]; omega
    have h1 := ho.max hV (unit_length ..) hy
    obtain ⟨m, hm⟩ : ∃ m, y[i]? = some m := ⟨_, List.getElem?_eq_getElem (by rw [hy.bds.1]; exact hi)⟩
    rw [dot_unit arcs.length i y hi hm, dot_unit arcs.length i x hi hk] at h1
    rw [nth_of hm]; omega
  · obtain ⟨m, hm⟩ : ∃ m, y[i]? = some m := ⟨_, List.getElem?_eq_getElem (by rw [hy.bds.1]; exact hi)⟩
    have h1 := hy.bds.2 i a m ha hm
    have h2 := hx.bds.2 i a k ha hk
    rw [nth_of hm]; omega

/-- All circulations have one amount there. -/
def FixAt (arcs : List Arc) (i : Nat) : Prop := ∀ y z, Circ arcs y → Circ arcs z → nth y i = nth z i
theorem FixAt.of (hV : Valid N arcs) (hx : Circ arcs x) (ha : arcs[i]? = some a) (hk : x[i]? = some k) (h1 : ¬ (k < a.hi ∧ Rch arcs x (i : Int) a.dst.toNat a.src.toNat)) (h2 : ¬ (a.lo < k ∧ Rch arcs x (i : Int) a.src.toNat a.dst.toNat)) : FixAt arcs i := by
  intro y z hy hz
  have := fix_max hV hx ha hk h1 hy
  have := fix_max hV hx ha hk h1 hz
  have := fix_min hV hx ha hk h2 hy
  have := fix_min hV hx ha hk h2 hz
  omega
/-- The ends of a range. -/
theorem FixAt.range {lo hi e : Int} (h : RaR N arcs i lo hi e) (he : e = 0) : FixAt arcs i ↔ lo = hi := by
  cases h with
  | bad h => exact absurd he h
  | no => cases he
  | @yes y q z r h0 ho ho' =>
    obtain ⟨hV, _, hi⟩ := aski_zero.1 h0
    have e1 : ((i : Int)).toNat = i := by omega
    rw [e1] at ho ho' ⊢
    have hi : i < arcs.length := by omega
    constructor
    · intro h; exact h y z ho.circ ho'.circ
    · intro h u v hu hv
      have key : ∀ u, Circ arcs u → nth u i = nth y i := by
        intro u hu
        have h1 := ho.unit_max hV hi hu
        have h2 := ho'.unit_max hV hi hu
        omega
      rw [key u hu, key v hv]
theorem RaR.ok {lo hi e : Int} (h : RaR N arcs i lo hi e) (hV : Valid N arcs) (hx : Circ arcs x) (hi' : i < arcs.length) : e = 0 := by
  cases h with
  | bad h => exact absurd (aski_zero.2 ⟨hV, by omega, by omega⟩) h
  | no _ h => exact (h.no hV hx).elim
  | yes => rfl
/-- What can be reached back shows that the amount is not the only one, if there is a range. -/
theorem FixAt.not_more (hV : Valid N arcs) (hx : Circ arcs x) (ha : arcs[i]? = some a) (hk : x[i]? = some k) (hlt : k < a.hi) (hr : Rch arcs x (i : Int) a.dst.toNat a.src.toNat) (hg : ∃ y q, Opt N arcs (unit arcs.length i 1) y q) : ¬ FixAt arcs i := by
  intro h
  obtain ⟨y, q, ho⟩ := hg
  have h1 := fix_more hV hx ha hk hlt hr ho
  have h2 := h x y hx ho.circ
  rw [nth_of hk] at h2
  omega
theorem FixAt.not_less (hV : Valid N arcs) (hx : Circ arcs x) (ha : arcs[i]? = some a) (hk : x[i]? = some k) (hlt : a.lo < k) (hr : Rch arcs x (i : Int) a.src.toNat a.dst.toNat) (hg : ∃ y q, Opt N arcs (unit arcs.length i (-1)) y q) : ¬ FixAt arcs i := by
  intro h
  obtain ⟨y, q, ho⟩ := hg
  have h1 := fix_less hV hx ha hk hlt hr ho
  have h2 := h x y hx ho.circ
  rw [nth_of hk] at h2
  omega

/-! ### the list of the arcs that have one amount -/
/-- What the search finds of one arc. -/
def Stuck (arcs : List Arc) (x : List Int) (i : Nat) : Prop := ∀ (a : Arc) (k : Int), arcs[i]? = some a → x[i]? = some k → ¬ (k < a.hi ∧ Rch arcs x (i : Int) a.dst.toNat a.src.toNat) ∧ ¬ (a.lo < k ∧ Rch arcs x (i : Int) a.src.toNat a.dst.toNat)
open Classical in
noncomputable def stk (arcs : List Arc) (x : List Int) : Nat → List Int
  | 0 => []
  | i + 1 => if Stuck arcs x i then stk arcs x i ++ [(i : Int)] else stk arcs x i
theorem stk_len (arcs : List Arc) (x : List Int) : ∀ i, (stk arcs x i).length ≤ i := by
  intro i
  induction i with
  | zero => simp [stk]
  | succ i ih =>
    simp only [stk]
    split
    · rw [List.length_append, List.length_singleton]; omega
    · omega
theorem stk_yes (h : Stuck arcs x i) : stk arcs x (i + 1) = stk arcs x i ++ [(i : Int)] := by rw [stk, if_pos h]
theorem stk_no (h : ¬ Stuck arcs x i) : stk arcs x (i + 1) = stk arcs x i := by rw [stk, if_neg h]
/-- What stands behind the arcs up to i. -/
theorem stk_more (arcs : List Arc) (x : List Int) (i : Nat) : ∀ d, ∃ t, stk arcs x (i + d) = stk arcs x i ++ t ∧ ∀ v ∈ t, (i : Int) ≤ v := by
  intro d
  induction d with
  | zero => exact ⟨[], by simp, by simp⟩
  | succ d ih =>
    obtain ⟨t, h1, h2⟩ := ih
    rw [← Nat.add_assoc]
    by_cases h : Stuck arcs x (i + d)
    · refine ⟨t ++ [((i + d : Nat) : Int)], by rw [stk_yes h, h1, List.append_assoc], fun v hv => ?_⟩
      rcases List.mem_append.1 hv with hv | hv
      · exact h2 v hv
      · simp at hv; omega
    · exact ⟨t, by rw [stk_no h, h1], h2⟩
theorem stk_at {n : Nat} (hi : i < n) : (Stuck arcs x i → (stk arcs x n)[(stk arcs x i).length]? = some (i : Int)) ∧ (¬ Stuck arcs x i → ∀ v, (stk arcs x n)[(stk arcs x i).length]? = some v → v ≠ (i : Int)) := by
  obtain ⟨t, h1, h2⟩ := stk_more arcs x (i + 1) (n - (i + 1))
  rw [show i + 1 + (n - (i + 1)) = n by omega] at h1
  constructor
  · intro h
    rw [h1, stk_yes h, List.append_assoc, List.getElem?_append_right (Nat.le_refl _), Nat.sub_self]
    rfl
  · intro h v hv
    rw [h1, stk_no h, List.getElem?_append_right (Nat.le_refl _), Nat.sub_self] at hv
    have := h2 v (List.mem_of_getElem? hv)
    omega

/-- What Fixed answers. -/
inductive FixR (N : Int) (arcs : List Arc) : List Int → Int → Prop
  | bad : chk N arcs ≠ 0 → FixR N arcs [] (chk N arcs)
  | no : Valid N arcs → NoC N arcs → FixR N arcs [] 60
  | yes {x : List Int} : Valid N arcs → Circ arcs x → FixR N arcs (stk arcs x arcs.length) 0
theorem FixR.some {l y : List Int} {e f : Int} (h : FixR N arcs l e) (h' : SomeR N arcs y f) (he : ¬ e = 0) : l.length = 0 ∧ f = e := by
  cases h with
  | bad g =>
    cases h' with
    | bad => exact ⟨rfl, rfl⟩
    | no g' => exact absurd (chk_zero.2 g') g
    | yes g' => exact absurd (chk_zero.2 g') g
  | no g n =>
    cases h' with
    | bad g' => exact absurd (chk_zero.2 g) g'
    | no => exact ⟨rfl, rfl⟩
    | yes _ c => exact (n.no g c).elim
  | yes => exact absurd rfl he
theorem FixR.yes' {l : List Int} {e : Int} (h : FixR N arcs l e) (he : e = 0) : ∃ x, Valid N arcs ∧ Circ arcs x ∧ l = stk arcs x arcs.length := by
  cases h with
  | bad g => exact absurd he g
  | no => cases he
  | yes h1 h2 => exact ⟨_, h1, h2, rfl⟩
/-- An arc is found exactly if its range has one amount. -/
theorem stuck_range {lo hi e : Int} (hV : Valid N arcs) (hx : Circ arcs x) (h : RaR N arcs i lo hi e) (he : e = 0) : Stuck arcs x i ↔ lo = hi := by
  rw [← FixAt.range h he]
  obtain ⟨ho1, ho2, hi'⟩ : (∃ y q, Opt N arcs (unit arcs.length i 1) y q) ∧ (∃ y q, Opt N arcs (unit arcs.length i (-1)) y q) ∧ i < arcs.length := by
    cases h with
    | bad h => exact absurd he h
    | no => cases he
    | @yes y q z r h0 ho ho' =>
      have e1 : ((i : Int)).toNat = i := by omega
      rw [e1] at ho ho'
      exact ⟨⟨_, _, ho'⟩, ⟨_, _, ho⟩, by have := (aski_zero.1 h0).2.2; omega⟩
  obtain ⟨a, ha⟩ : ∃ a, arcs[i]? = some a := ⟨_, List.getElem?_eq_getElem hi'⟩
  obtain ⟨k, hk⟩ : ∃ k, x[i]? = some k := ⟨_, List.getElem?_eq_getElem (by rw [hx.bds.1]; exact hi')⟩
  constructor
  · intro hs
    obtain ⟨h1, h2⟩ := hs a k ha hk
    exact .of hV hx ha hk h1 h2
  · intro hf b m hb hm
    rw [ha] at hb; cases hb
    rw [hk] at hm; cases hm
    exact ⟨fun ⟨g1, g2⟩ => FixAt.not_more hV hx ha hk g1 g2 ho1 hf, fun ⟨g1, g2⟩ => FixAt.not_less hV hx ha hk g1 g2 ho2 hf⟩
theorem is_yes {n : Nat} (hi : i < n) {v : Int} (hq : (stk arcs x n)[(stk arcs x i).length]? = some v) (e : v = (i : Int)) : Stuck arcs x i :=
  Classical.byContradiction fun hn => (stk_at hi).2 hn v hq e
theorem is_no {n : Nat} (hi : i < n) {v : Int} (hq : (stk arcs x n)[(stk arcs x i).length]? = some v) (e : ¬ v = (i : Int)) : ¬ Stuck arcs x i := fun h => by
  have := (stk_at hi).1 h
  rw [this] at hq; cases hq; exact e rfl
theorem is_out {n : Nat} (hi : i < n) (hq : ¬ ((stk arcs x i).length : Int) < ((stk arcs x n).length : Int)) : ¬ Stuck arcs x i := fun h => by
  have := (List.getElem?_eq_some_iff.1 ((stk_at hi).1 h)).1
  omega
theorem is_same {n : Nat} (hi : i < n) {lo hi' v : Int} (hs : Stuck arcs x i ↔ lo = hi') (hq : (stk arcs x n)[(stk arcs x i).length]? = some v) : (decide (v = (i : Int)) != decide (lo = hi')) = false := by
  by_cases e : v = (i : Int)
  · rw [decide_eq_true e, decide_eq_true (hs.1 (is_yes hi hq e))]; rfl
  · rw [decide_eq_false e, decide_eq_false (fun h => is_no hi hq e (hs.2 h))]; rfl
end
end Go.Vk.Flow

/- Nets, as plain mathematics, part 17: circles. No program in sight. -/
namespace Go.Vk.Flow
open Go

/-- A circle: its arcs, and how much goes along them. -/
abbrev Crc := List Int × Int
/-- The arcs of a list: the k-th one leads to where the next one begins. -/
def Leads (arcs : List Arc) (l : List Int) (k k' : Nat) : Prop := ∀ (i i' : Int) (a a' : Arc), l[k]? = some i → l[k']? = some i' → arcs[i.toNat]? = some a → arcs[i'.toNat]? = some a' → a.dst = a'.src
structure Cir (arcs : List Arc) (c : Crc) : Prop where
  ne : 0 < c.1.length
  am : 1 ≤ c.2 ∧ c.2 ≤ 1000000
  ok : ∀ i ∈ c.1, 0 ≤ i ∧ i < arcs.length
  lead : ∀ k : Nat, k < c.1.length → Leads arcs c.1 k ((k + 1) % c.1.length)
  once : ∀ (j k : Nat) (i i' : Int) (a a' : Arc), c.1[j]? = some i → c.1[k]? = some i' → arcs[i.toNat]? = some a → arcs[i'.toNat]? = some a' → a.src = a'.src → j = k

/-! ### what circles add up to -/
def add1 (c : Crc) (f : Nat → Int) (k : Nat) : Nat → Int := fun v => if (v : Int) ∈ c.1.take k then f v + c.2 else f v
def addAll (cs : List Crc) : Nat → Int := cs.foldl (fun f c => add1 c f c.1.length) fun _ => 0
theorem addAll_snoc (cs : List Crc) (c : Crc) : addAll (cs ++ [c]) = add1 c (addAll cs) c.1.length := by simp [addAll]
theorem addAll_take {cs : List Crc} {i : Nat} {c : Crc} (h : cs[i]? = some c) : addAll (cs.take (i + 1)) = add1 c (addAll (cs.take i)) c.1.length := by
  rw [List.take_add_one, h]; exact addAll_snoc _ _
theorem add1_zero {c : Crc} {f : Nat → Int} : add1 c f 0 = f := by funext v; simp [add1]
section
variable {N : Int} {arcs : List Arc} {x : List Int} {c : Crc} {cs : List Crc}
/-- No arc stands twice in a circle. -/
theorem Cir.fresh (h : Cir arcs c) {k : Nat} {i : Int} (hi : c.1[k]? = some i) : i ∉ c.1.take k := by
  intro hm
  obtain ⟨j, hj, e⟩ := List.mem_take_iff_getElem.1 hm
  have hjl : j < c.1.length := by omega
  have hb := h.ok i (List.mem_of_getElem? hi)
  obtain ⟨a, ha⟩ : ∃ a, arcs[i.toNat]? = some a := ⟨_, List.getElem?_eq_getElem (by omega)⟩
  have := h.once j k i i a a (by rw [List.getElem?_eq_getElem hjl, e]) hi ha ha rfl
  omega
theorem Cir.src_lt (h : Cir arcs c) (hV : Valid N arcs) : c.1.length ≤ N.toNat := by
  -- marks: each arc marks its first node
  have key : ∀ k, k ≤ c.1.length → ∃ B : List Bool, B.length = N.toNat ∧ B.count true = k ∧ ∀ u : Nat, B[u]? = some true ↔ ∃ (j : Nat) (i : Int) (a : Arc), j < k ∧ c.1[j]? = some i ∧ arcs[i.toNat]? = some a ∧ a.src.toNat = u := by
    intro k
    induction k with
    | zero =>
      intro _
      refine ⟨List.replicate N.toNat false, List.length_replicate, by rw [List.count_replicate]; rfl, fun u => ⟨fun hu => ?_, fun ⟨j, _, _, hj, _⟩ => absurd hj (Nat.not_lt_zero j)⟩⟩
      rw [List.getElem?_replicate] at hu; split at hu <;> cases hu
    | succ k ih =>
      intro hk
      obtain ⟨B, h1, h2, h3⟩ := ih (by omega)
      obtain ⟨i, hi⟩ : ∃ i, c.1[k]? = some i := ⟨_, List.getElem?_eq_getElem (by omega)⟩
      have hb := h.ok i (List.mem_of_getElem? hi)
      obtain ⟨a, ha⟩ : ∃ a, arcs[i.toNat]? = some a := ⟨_, List.getElem?_eq_getElem (by omega)⟩
      have hok := hV.at ha
      have hlt : a.src.toNat < B.length := by omega
      have hf : B[a.src.toNat]? = some false := by
        obtain ⟨b, hb'⟩ : ∃ b, B[a.src.toNat]? = some b := ⟨_, List.getElem?_eq_getElem hlt⟩
        cases b with
        | false => exact hb'
        | true =>
          obtain ⟨j, i', a', hj, hi', ha', e⟩ := (h3 _).1 hb'
          have hok' := hV.at ha'
          have := h.once j k i' i a' a hi' hi ha' ha (by omega)
          omega
      refine ⟨B.set a.src.toNat true, by rw [List.length_set, h1], by rw [count_set hf, h2], fun u => ?_⟩
      rw [set_true hlt, h3 u]
      constructor
      · rintro (rfl | ⟨j, i', a', hj, hh⟩)
        · exact ⟨k, i, a, by omega, hi, ha, rfl⟩
        · exact ⟨j, i', a', by omega, hh⟩
      · rintro ⟨j, i', a', hj, hi', ha', e⟩
        rcases Nat.lt_or_ge j k with hjk | hjk
        · exact .inr ⟨j, i', a', hjk, hi', ha', e⟩
        · have : j = k := by omega
          subst this
          rw [hi] at hi'; cases hi'
          rw [ha] at ha'; cases ha'
          exact .inl e.symm
  obtain ⟨B, h1, h2, _⟩ := key _ (Nat.le_refl _)
  have := List.count_le_length (a := true) (l := B)
  omega
theorem add1_step (h : Cir arcs c) {f : Nat → Int} {k : Nat} {i : Int} (hi : c.1[k]? = some i) : upf (add1 c f k) i.toNat (add1 c f k i.toNat + c.2) = add1 c f (k + 1) := by
  have hb := h.ok i (List.mem_of_getElem? hi)
  have hf := h.fresh hi
  have e : ((i.toNat : Nat) : Int) = i := by omega
  funext v
  unfold upf add1
  rw [List.take_add_one, hi, e, if_neg hf]
  by_cases hv : v = i.toNat
  · subst hv
    rw [if_pos rfl, e, if_pos (List.mem_append_right _ (by simp))]
  · rw [if_neg hv]
    have hne : (v : Int) ≠ i := by omega
    by_cases hm : (v : Int) ∈ c.1.take k
    · rw [if_pos hm, if_pos (List.mem_append_left _ hm)]
    · rw [if_neg hm, if_neg (fun hh => (List.mem_append.1 hh).elim hm (by simp [hne]))]
theorem add1_bd {f : Nat → Int} {B : Int} (hf : ∀ v, 0 ≤ f v ∧ f v ≤ B) (hc : 1 ≤ c.2 ∧ c.2 ≤ 1000000) (k v : Nat) : 0 ≤ add1 c f k v ∧ add1 c f k v ≤ B + 1000000 := by
  unfold add1
  have := hf v
  split <;> omega
theorem addAll_bd (h : ∀ c ∈ cs, Cir arcs c) : ∀ i, i ≤ cs.length → ∀ v, 0 ≤ addAll (cs.take i) v ∧ addAll (cs.take i) v ≤ 1000000 * (i : Int) := by
  intro i
  induction i with
  | zero => intro _ v; simp [addAll]
  | succ i ih =>
    intro hi v
    obtain ⟨c, hc⟩ : ∃ c, cs[i]? = some c := ⟨_, List.getElem?_eq_getElem (by omega)⟩
    rw [addAll_take hc]
    have := add1_bd (ih (by omega)) (h c (List.mem_of_getElem? hc)).am c.1.length v
    omega
theorem addAll_nonneg (h : ∀ c ∈ cs, Cir arcs c) (v : Nat) : 0 ≤ addAll cs v := by
  have := addAll_bd h cs.length (Nat.le_refl _) v
  rw [List.take_length] at this
  exact this.1

/-- What FromCircles answers: the amounts, the error. -/
inductive FrcR (N : Int) (arcs : List Arc) (cs : List Crc) : List Int → Int → Prop
  | bad : chk N arcs ≠ 0 → FrcR N arcs cs [] (chk N arcs)
  | many : chk N arcs = 0 → 4000 < cs.length → FrcR N arcs cs [] 2
  | arg {c : Crc} : chk N arcs = 0 → ¬ 4000 < cs.length → c ∈ cs → ¬ Cir arcs c → FrcR N arcs cs [] 1
  | big {i : Nat} : chk N arcs = 0 → ¬ 4000 < cs.length → (∀ c ∈ cs, Cir arcs c) → i < arcs.length → 1000000 < addAll cs i → FrcR N arcs cs [] 2
  | yes : chk N arcs = 0 → ¬ 4000 < cs.length → (∀ c ∈ cs, Cir arcs c) → (∀ i, i < arcs.length → ¬ 1000000 < addAll cs i) → FrcR N arcs cs ((List.range arcs.length).map (addAll cs)) 0
theorem FrcR.same {l l' : List Int} {e e' : Int} (h : FrcR N arcs cs l e) (h' : FrcR N arcs cs l' e') : l = l' ∧ e = e' := by
  cases h with
  | bad g => cases h' with
    | bad => exact ⟨rfl, rfl⟩
    | many g' => exact absurd g' g
    | arg g' => exact absurd g' g
    | big g' => exact absurd g' g
    | yes g' => exact absurd g' g
  | many g1 g2 => cases h' with
    | bad g' => exact absurd g1 g'
    | many => exact ⟨rfl, rfl⟩
    | arg _ g' => exact absurd g2 g'
    | big _ g' => exact absurd g2 g'
    | yes _ g' => exact absurd g2 g'
  | arg g1 g2 g3 g4 => cases h' with
    | bad g' => exact absurd g1 g'
    | many _ g' => exact absurd g' g2
    | arg => exact ⟨rfl, rfl⟩
    | big _ _ g' => exact absurd (g' _ g3) g4
    | yes _ _ g' => exact absurd (g' _ g3) g4
  | big g1 g2 g3 g4 g5 => cases h' with
    | bad g' => exact absurd g1 g'
    | many _ g' => exact absurd g' g2
    | arg _ _ h1 h2 => exact absurd (g3 _ h1) h2
    | big => exact ⟨rfl, rfl⟩
    | yes _ _ _ g' => exact absurd g5 (g' _ g4)
  | yes g1 g2 g3 g4 => cases h' with
    | bad g' => exact absurd g1 g'
    | many _ g' => exact absurd g' g2
    | arg _ _ h1 h2 => exact absurd (g3 _ h1) h2
    | big _ _ _ h1 h2 => exact absurd h2 (g4 _ h1)
    | yes => exact ⟨rfl, rfl⟩
theorem FrcR.len {l : List Int} {e : Int} (h : FrcR N arcs cs l e) : l.length ≤ 4000 := by
  cases h with
  | yes g => have := (chk_zero.1 g).len; simp; omega
  | _ => exact Nat.zero_le _

/-! ### circles are taken away from a circulation -/
/-- Amounts that are left: none is below 0, and at each node as much goes in as out. -/
structure Bal (arcs : List Arc) (x : List Int) : Prop where
  len : x.length = arcs.length
  nn : ∀ (i : Nat) (y : Int), x[i]? = some y → 0 ≤ y ∧ y ≤ 1000000
  zero : ∀ v : Nat, ex arcs x v = 0
theorem Circ.bal (h : Circ arcs x) (hV : Valid N arcs) : Bal arcs x := ⟨h.bds.1, fun _ _ hy => (h.amts hV).at hy, h.zero⟩
theorem ex_ge : ∀ (as : List Arc) (ys : List Int) (v : Nat), (∀ (i : Nat) (a : Arc) (y : Int), as[i]? = some a → ys[i]? = some y → 0 ≤ y ∧ (a.src = (v : Int) → y = 0)) → 0 ≤ ex as ys v ∧ ((∃ (i : Nat) (a : Arc) (y : Int), as[i]? = some a ∧ ys[i]? = some y ∧ a.dst = (v : Int) ∧ 0 < y) → 0 < ex as ys v) := by
  intro as
  induction as with
  | nil => intro ys v _; exact ⟨by simp [ex], fun ⟨i, a, y, h, _⟩ => by simp at h⟩
  | cons a as ih =>
    intro ys v h
    cases ys with
    | nil => exact ⟨by simp [ex], fun ⟨i, a, y, _, h, _⟩ => by simp at h⟩
    | cons y ys =>
      obtain ⟨h1, h2⟩ := ih ys v fun i b z hb hz => h (i + 1) b z (by simpa using hb) (by simpa using hz)
      obtain ⟨h3, h4⟩ := h 0 a y rfl rfl
      have h5 : 0 ≤ (if a.dst = (v : Int) then y else 0) - (if a.src = (v : Int) then y else 0) := by
        by_cases e : a.src = (v : Int)
        · rw [if_pos e, h4 e]; split <;> omega
        · rw [if_neg e]; split <;> omega
      refine ⟨by simp only [ex]; omega, ?_⟩
      rintro ⟨i, b, z, hb, hz, hd, hp⟩
      cases i with
      | zero =>
        simp at hb hz
        subst hb; subst hz
        simp only [ex]
        rw [if_pos hd, if_neg (fun e => by have := h4 e; omega)]
        omega
      | succ i =>
        have := h2 ⟨i, b, z, by simpa using hb, by simpa using hz, hd, hp⟩
        simp only [ex]; omega
/-- Where something goes in something goes out. -/
theorem Bal.out (h : Bal arcs x) (hV : Valid N arcs) {j : Nat} {a : Arc} {y : Int} (ha : arcs[j]? = some a) (hy : x[j]? = some y) (hp : 0 < y) : ∃ (i : Nat) (b : Arc) (z : Int), arcs[i]? = some b ∧ x[i]? = some z ∧ b.src = a.dst ∧ 0 < z := by
  refine Classical.byContradiction fun hn => ?_
  have hok := hV.at ha
  have h1 := (ex_ge arcs x a.dst.toNat fun i b z hb hz => ⟨(h.nn i z hz).1, fun e => Classical.byContradiction fun hz0 => hn ⟨i, b, z, hb, hz, by omega, by have := h.nn i z hz; omega⟩⟩).2 ⟨j, a, y, ha, hy, by omega, hp⟩
  rw [h.zero] at h1
  omega

/-- The arcs by their first nodes. -/
def fromB (arcs : List Arc) (v i : Nat) : Bool := match arcs[i]? with | some a => decide (a.src = (v : Int)) | none => false
def outsUp (arcs : List Arc) (k v : Nat) : List Int := ((List.range k).filter (fromB arcs v)).map Int.ofNat
def byo (N : Int) (arcs : List Arc) (k : Nat) : List (List Int) := (List.range N.toNat).map fun v => outsUp arcs k v
theorem byo_zero : byo N arcs 0 = List.replicate N.toNat [] := by simp [byo, outsUp, List.map_const']
theorem byo_get {v k : Nat} (h : v < N.toNat) : (byo N arcs k)[v]? = some (outsUp arcs k v) := by simp [byo, h]
theorem outsUp_len {k v : Nat} : (outsUp arcs k v).length ≤ k := by
  unfold outsUp
  rw [List.length_map]
  exact Nat.le_trans (List.length_filter_le _ _) (by simp)
theorem outsUp_step {k v : Nat} {a : Arc} (ha : arcs[k]? = some a) : outsUp arcs (k + 1) v = outsUp arcs k v ++ if a.src = (v : Int) then [(k : Int)] else [] := by
  unfold outsUp
  rw [List.range_succ, List.filter_append, List.map_append]
  congr 1
  have h : fromB arcs v k = decide (a.src = (v : Int)) := by unfold fromB; rw [ha]
  by_cases e : a.src = (v : Int)
  · rw [if_pos e, List.filter_cons_of_pos (by rw [h]; exact decide_eq_true e)]; rfl
  · rw [if_neg e, List.filter_cons_of_neg (by rw [h]; simpa using e)]; rfl
theorem byo_step {k : Nat} {a : Arc} (ha : arcs[k]? = some a) (hs : 0 ≤ a.src ∧ a.src < N) : (byo N arcs k).set a.src.toNat (outsUp arcs k a.src.toNat ++ [(k : Int)]) = byo N arcs (k + 1) := by
  unfold byo
  refine map_set (by omega) ?_ fun v hv => ?_
  · rw [outsUp_step ha, if_pos (by omega)]
  · rw [outsUp_step ha, if_neg (by omega), List.append_nil]
theorem mem_outs {k v : Nat} {i : Int} (h : i ∈ outsUp arcs k v) : 0 ≤ i ∧ i < k ∧ ∃ a, arcs[i.toNat]? = some a ∧ a.src = (v : Int) := by
  unfold outsUp at h
  obtain ⟨j, hj, e⟩ := List.mem_map.1 h
  have e : i = (j : Int) := e.symm
  subst e
  obtain ⟨h1, h2⟩ := List.mem_filter.1 hj
  rw [List.mem_range] at h1
  unfold fromB at h2
  cases ha : arcs[j]? with
  | none => rw [ha] at h2; cases h2
  | some a =>
    rw [ha] at h2
    exact ⟨by omega, by omega, a, by rw [Int.toNat_natCast]; exact ha, of_decide_eq_true h2⟩
theorem mem_outs_of {k v i : Nat} {a : Arc} (hi : i < k) (ha : arcs[i]? = some a) (hs : a.src = (v : Int)) : (i : Int) ∈ outsUp arcs k v := by
  unfold outsUp
  exact List.mem_map.2 ⟨i, List.mem_filter.2 ⟨List.mem_range.2 hi, by unfold fromB; rw [ha]; exact decide_eq_true hs⟩, rfl⟩

/-! ### a walk until a node comes again -/
/-- The walk: the places of the nodes on it, the arcs, the node at its end. -/
structure Way (N : Int) (arcs : List Arc) (x : List Int) (start : Nat) (place way : List Int) (v : Int) : Prop where
  len : place.length = N.toNat
  node : 0 ≤ v ∧ v < N
  pos : ∀ i ∈ way, 0 ≤ i ∧ i < arcs.length ∧ 0 < nth x i.toNat
  at' : ∀ (u : Nat) (p : Int), place[u]? = some p → p = -1 ∨ ∃ i a, 0 ≤ p ∧ way[p.toNat]? = some i ∧ arcs[i.toNat]? = some a ∧ a.src = (u : Int)
  src : ∀ (j : Nat) (i : Int) (a : Arc), way[j]? = some i → arcs[i.toNat]? = some a → place[a.src.toNat]? = some (j : Int)
  lead : ∀ k : Nat, Leads arcs way k (k + 1)
  stop : (way = [] ∧ ∃ a, arcs[start]? = some a ∧ a.src = v) ∨ ∃ i a, way[way.length - 1]? = some i ∧ 0 < way.length ∧ arcs[i.toNat]? = some a ∧ a.dst = v
variable {st0 : Nat} {place way : List Int} {v : Int}
theorem Way.start (hV : Valid N arcs) {a : Arc} (ha : arcs[st0]? = some a) : Way N arcs x st0 (List.replicate N.toNat (-1)) [] a.src := by
  have hok := hV.at ha
  refine ⟨List.length_replicate, by omega, by simp, fun u p hp => ?_, by simp, fun k i i' _ _ h => by simp at h, .inl ⟨rfl, a, ha, rfl⟩⟩
  rw [List.getElem?_replicate] at hp
  split at hp
  · cases hp; exact .inl rfl
  · cases hp
/-- There is an arc to go on with. -/
theorem Way.on (h : Way N arcs x st0 place way v) (hb : Bal arcs x) (hV : Valid N arcs) (hs : 0 < nth x st0) : ∃ i ∈ outsUp arcs arcs.length v.toNat, 0 < nth x i.toNat := by
  have hv := h.node
  rcases h.stop with ⟨_, a, ha, e⟩ | ⟨i, a, hi, _, ha, e⟩
  · have hsl := (List.getElem?_eq_some_iff.1 ha).1
    exact ⟨(st0 : Int), mem_outs_of hsl ha (by omega), by rw [Int.toNat_natCast]; exact hs⟩
  · obtain ⟨h1, h2, h3⟩ := h.pos i (List.mem_of_getElem? hi)
    obtain ⟨j, b, z, hb1, hz, e2, hz0⟩ := hb.out hV ha (nth_get (by rw [hb.len]; omega)) h3
    have hjl := (List.getElem?_eq_some_iff.1 hb1).1
    exact ⟨(j : Int), mem_outs_of hjl hb1 (by omega), by rw [Int.toNat_natCast, nth_of hz]; exact hz0⟩
theorem Way.step (h : Way N arcs x st0 place way v) (hV : Valid N arcs) {i : Int} {a : Arc} (hp : place[v.toNat]? = some (-1)) (hi : i ∈ outsUp arcs arcs.length v.toNat) (hpos : 0 < nth x i.toNat) (ha : arcs[i.toNat]? = some a) :
    Way N arcs x st0 (place.set v.toNat (way.length : Int)) (way ++ [i]) a.dst := by
  have hok := hV.at ha
  have hv := h.node
  obtain ⟨i0, i1, b, hb, e⟩ := mem_outs hi
  rw [ha] at hb; cases hb
  have hsv : a.src = v := by omega
  have hvl := (List.getElem?_eq_some_iff.1 hp).1
  have hnew : ∀ (j : Nat) (i' : Int) (a' : Arc), way[j]? = some i' → arcs[i'.toNat]? = some a' → a'.src.toNat ≠ v.toNat := fun j i' a' h1 h2 hh => by
    have := h.src j i' a' h1 h2
    rw [hh, hp] at this
    have := Option.some.inj this
    omega
  refine ⟨by rw [List.length_set]; exact h.len, by omega, fun i' hi' => ?_, fun u p hu => ?_, fun j i' a' hj ha' => ?_, fun k i1 i2 a1 a2 hk hk' ha1 ha2 => ?_, .inr ⟨i, a, by simp, by simp, ha, rfl⟩⟩
  · rcases List.mem_append.1 hi' with hh | hh
    · exact h.pos i' hh
    · simp at hh; subst hh; exact ⟨i0, i1, hpos⟩
  · rw [List.getElem?_set] at hu
    by_cases e1 : v.toNat = u
    · rw [if_pos e1, if_pos hvl] at hu
      cases hu
      exact .inr ⟨i, a, by omega, by simp, ha, by omega⟩
    · rw [if_neg e1] at hu
      rcases h.at' u p hu with hh | ⟨i', a', h1, h2, h3, h4⟩
      · exact .inl hh
      · exact .inr ⟨i', a', h1, by rw [List.getElem?_append_left (List.getElem?_eq_some_iff.1 h2).1]; exact h2, h3, h4⟩
  · rcases Nat.lt_or_ge j way.length with hj' | hj'
    · rw [List.getElem?_append_left hj'] at hj
      rw [List.getElem?_set_ne (Ne.symm (hnew j i' a' hj ha'))]
      exact h.src j i' a' hj ha'
    · rw [List.getElem?_append_right hj'] at hj
      have : j - way.length = 0 := by
        cases hh : j - way.length with
        | zero => rfl
        | succ n => rw [hh] at hj; simp at hj
      rw [this] at hj
      simp at hj; subst hj
      rw [ha] at ha'; cases ha'
      rw [hsv, List.getElem?_set_self hvl]
      congr 1; omega
  · have hkl := (List.getElem?_eq_some_iff.1 hk').1
    rw [List.length_append, List.length_singleton] at hkl
    rcases Nat.lt_or_ge (k + 1) way.length with hj' | hj'
    · rw [List.getElem?_append_left (by omega)] at hk hk'
      exact h.lead k i1 i2 a1 a2 hk hk' ha1 ha2
    · have e1 : k + 1 = way.length := by omega
      rw [List.getElem?_append_left (by omega)] at hk
      rw [List.getElem?_append_right hj', e1, Nat.sub_self] at hk'
      simp at hk'; subst hk'
      rw [ha] at ha2; cases ha2
      rcases h.stop with ⟨e2, _⟩ | ⟨i3, a3, h3, _, h4, h5⟩
      · rw [e2] at hk; simp at hk
      · rw [← e1] at h3
        simp only [Nat.add_sub_cancel] at h3
        rw [hk] at h3; cases h3
        rw [ha1] at h4; cases h4
        omega
theorem count_setI : ∀ (B : List Int) (v : Nat) (m : Int), B[v]? = some (-1) → m ≠ -1 → (B.set v m).count (-1) + 1 = B.count (-1) := by
  intro B
  induction B with
  | nil => intro v m h; simp at h
  | cons b B ih =>
    intro v m h hm
    cases v with
    | zero => simp at h; subst h; simp [List.count_cons, hm]
    | succ v =>
      have h1 := ih v m (by simpa using h) hm
      simp only [List.set_cons_succ, List.count_cons]; omega
/-- The walk is no longer than there are nodes. -/
theorem Way.len_le (h : Way N arcs x st0 place way v) (hV : Valid N arcs) : way.length ≤ N.toNat := by
  -- the nodes' places are all less than the walk's length, and each is there
  have key : ∀ k, k ≤ way.length → ∃ B : List Bool, B.length = N.toNat ∧ B.count true = k ∧ ∀ u : Nat, B[u]? = some true → ∃ (j : Nat), j < k ∧ place[u]? = some (j : Int) := by
    intro k
    induction k with
    | zero =>
      intro _
      refine ⟨List.replicate N.toNat false, List.length_replicate, by rw [List.count_replicate]; rfl, fun u hu => ?_⟩
      rw [List.getElem?_replicate] at hu; split at hu <;> simp at hu
    | succ k ih =>
      intro hk
      obtain ⟨B, h1, h2, h3⟩ := ih (by omega)
      obtain ⟨i, hi⟩ : ∃ i, way[k]? = some i := ⟨_, List.getElem?_eq_getElem (by omega)⟩
      have hb := h.pos i (List.mem_of_getElem? hi)
      obtain ⟨a, ha⟩ : ∃ a, arcs[i.toNat]? = some a := ⟨_, List.getElem?_eq_getElem (by omega)⟩
      have hok := hV.at ha
      have hpl := h.src k i a hi ha
      have hlt : a.src.toNat < B.length := by omega
      have hf : B[a.src.toNat]? = some false := by
        obtain ⟨b, hb'⟩ : ∃ b, B[a.src.toNat]? = some b := ⟨_, List.getElem?_eq_getElem hlt⟩
        cases b with
        | false => exact hb'
        | true =>
          obtain ⟨j, hj, e⟩ := h3 _ hb'
          rw [hpl] at e
          simp at e; omega
      refine ⟨B.set a.src.toNat true, by rw [List.length_set, h1], by rw [count_set hf, h2], fun u hu => ?_⟩
      rcases (set_true hlt).1 hu with rfl | hu
      · exact ⟨k, by omega, hpl⟩
      · obtain ⟨j, hj, e⟩ := h3 u hu; exact ⟨j, by omega, e⟩
  obtain ⟨B, h1, h2, _⟩ := key _ (Nat.le_refl _)
  have := List.count_le_length (a := true) (l := B)
  omega
/-- Where a node comes again there is a circle. -/
theorem Way.circle (h : Way N arcs x st0 place way v) (hV : Valid N arcs) {p m : Int} (hp : place[v.toNat]? = some p) (hp0 : 0 ≤ p) (hm : 1 ≤ m ∧ m ≤ 1000000) : Cir arcs (way.drop p.toNat, m) := by
  have hv := h.node
  rcases h.at' v.toNat p hp with e | ⟨i, a, _, hi, ha, hs⟩
  · omega
  have hpl := (List.getElem?_eq_some_iff.1 hi).1
  refine ⟨by simp; omega, hm, fun j hj => ?_, fun k hk i1 i2 a1 a2 h1 h2 ha1 ha2 => ?_, fun j k i1 i2 a1 a2 h1 h2 ha1 ha2 e => ?_⟩
  · have := h.pos j (List.mem_of_mem_drop hj); omega
  · simp only [List.length_drop] at hk h2
    rw [List.getElem?_drop] at h1 h2
    rcases Nat.lt_or_ge (k + 1) (way.length - p.toNat) with hlt | hge
    · rw [Nat.mod_eq_of_lt hlt] at h2
      exact h.lead (p.toNat + k) i1 i2 a1 a2 h1 (by rw [← h2]; congr 1) ha1 ha2
    · have e1 : k + 1 = way.length - p.toNat := by omega
      rw [e1, Nat.mod_self, Nat.add_zero, hi] at h2
      cases h2
      rw [ha] at ha2; cases ha2
      rcases h.stop with ⟨e2, _⟩ | ⟨i3, a3, h3, _, h4, h5⟩
      · rw [e2] at hpl; simp at hpl
      · have e3 : way.length - 1 = p.toNat + k := by omega
        rw [e3, h1] at h3; cases h3
        rw [ha1] at h4; cases h4
        omega
  · rw [List.getElem?_drop] at h1 h2
    have q1 := h.src _ i1 a1 h1 ha1
    have q2 := h.src _ i2 a2 h2 ha2
    rw [e, q2] at q1
    simp at q1; omega

/-! ### what is taken away -/
def subl (x : List Int) (l : List Int) (m : Int) : List Int := l.foldl (fun x i => x.set i.toNat (nth x i.toNat - m)) x
theorem subl_snoc {l : List Int} {i m : Int} : subl x (l ++ [i]) m = (subl x l m).set i.toNat (nth (subl x l m) i.toNat - m) := by simp [subl]
theorem subl_take {l : List Int} {k : Nat} {i m : Int} (h : l[k]? = some i) : subl x (l.take (k + 1)) m = (subl x (l.take k) m).set i.toNat (nth (subl x (l.take k) m) i.toNat - m) := by
  rw [List.take_add_one, h]; exact subl_snoc
theorem subl_zero {l : List Int} {m : Int} : subl x (l.take 0) m = x := by simp [subl]
theorem subl_len {l : List Int} {m : Int} : (subl x l m).length = x.length := by
  unfold subl
  induction l generalizing x with
  | nil => rfl
  | cons i l ih => rw [List.foldl_cons, ih, List.length_set]
/-- What is left along a part of a circle. -/
theorem subl_nth (h : Cir arcs c) (hx : x.length = arcs.length) : ∀ k, k ≤ c.1.length → ∀ v : Nat, nth (subl x (c.1.take k) c.2) v = if (v : Int) ∈ c.1.take k then nth x v - c.2 else nth x v := by
  intro k
  induction k with
  | zero => intro _ v; simp [subl]
  | succ k ih =>
    intro hk v
    obtain ⟨i, hi⟩ : ∃ i, c.1[k]? = some i := ⟨_, List.getElem?_eq_getElem (by omega)⟩
    have hb := h.ok i (List.mem_of_getElem? hi)
    have hf := h.fresh hi
    rw [subl_take hi, nth_set (by rw [subl_len, hx]; omega), ih (by omega), ih (by omega)]
    have e : ((i.toNat : Nat) : Int) = i := by omega
    rw [e, if_neg hf, List.take_add_one, hi]
    by_cases hv : v = i.toNat
    · subst hv
      rw [if_pos rfl, e, if_pos (List.mem_append_right _ (by simp))]
    · rw [if_neg hv]
      have hne : (v : Int) ≠ i := by omega
      by_cases hm : (v : Int) ∈ c.1.take k
      · rw [if_pos hm, if_pos (List.mem_append_left _ hm)]
      · rw [if_neg hm, if_neg (fun hh => (List.mem_append.1 hh).elim hm (by simp [hne]))]
/-- While it is taken away two nodes alone have too much or too little. -/
theorem subl_ex (h : Cir arcs c) (hx : Bal arcs x) {i0 : Int} {a0 : Arc} (hi0 : c.1[0]? = some i0) (ha0 : arcs[i0.toNat]? = some a0) : ∀ k, k < c.1.length → ∀ (i : Int) (a : Arc), c.1[k]? = some i → arcs[i.toNat]? = some a →
    ∀ v : Nat, ex arcs (subl x (c.1.take (k + 1)) c.2) v = (if a0.src = (v : Int) then c.2 else 0) - (if a.dst = (v : Int) then c.2 else 0) := by
  have stp : ∀ (k : Nat) (i : Int) (a : Arc), c.1[k]? = some i → arcs[i.toNat]? = some a → ∀ v : Nat, ex arcs (subl x (c.1.take (k + 1)) c.2) v = ex arcs (subl x (c.1.take k) c.2) v + ((if a.src = (v : Int) then c.2 else 0) - (if a.dst = (v : Int) then c.2 else 0)) := by
    intro k i a hi ha v
    have hb := h.ok i (List.mem_of_getElem? hi)
    have hl : i.toNat < (subl x (c.1.take k) c.2).length := by rw [subl_len, hx.len]; omega
    rw [subl_take hi, ex_set arcs _ i.toNat a _ _ v ha (nth_get hl)]
    split <;> split <;> omega
  intro k
  induction k with
  | zero =>
    intro _ i a hi ha v
    rw [hi0] at hi; cases hi
    rw [ha0] at ha; cases ha
    rw [stp 0 i0 a0 hi0 ha0 v, subl_zero, hx.zero]
    omega
  | succ k ih =>
    intro hk i a hi ha v
    obtain ⟨j, hj⟩ : ∃ j, c.1[k]? = some j := ⟨_, List.getElem?_eq_getElem (by omega)⟩
    have hb := h.ok j (List.mem_of_getElem? hj)
    obtain ⟨b, hb'⟩ : ∃ b, arcs[j.toNat]? = some b := ⟨_, List.getElem?_eq_getElem (by omega)⟩
    have hl := h.lead k (by omega) j i b a hj (by rw [Nat.mod_eq_of_lt hk]; exact hi) hb' ha
    rw [stp (k + 1) i a hi ha v, ih (by omega) j b hj hb' v, hl]
    omega
theorem subl_bal (h : Cir arcs c) (hx : Bal arcs x) (hm : ∀ i ∈ c.1, c.2 ≤ nth x i.toNat) : Bal arcs (subl x c.1 c.2) := by
  have hn := subl_nth h hx.len c.1.length (Nat.le_refl _)
  rw [List.take_length] at hn
  refine ⟨by rw [subl_len]; exact hx.len, fun i y hy => ?_, fun v => ?_⟩
  · have hi := (List.getElem?_eq_some_iff.1 hy).1
    rw [subl_len] at hi
    have h1 := hn i
    rw [nth_of hy] at h1
    have h2 := hx.nn i _ (nth_get hi)
    split at h1
    · next hh => have := hm _ hh; rw [Int.toNat_natCast] at this; have := h.am; omega
    · omega
  · obtain ⟨i0, hi0⟩ : ∃ i0, c.1[0]? = some i0 := ⟨_, List.getElem?_eq_getElem h.ne⟩
    have hb0 := h.ok i0 (List.mem_of_getElem? hi0)
    obtain ⟨a0, ha0⟩ : ∃ a0, arcs[i0.toNat]? = some a0 := ⟨_, List.getElem?_eq_getElem (by omega)⟩
    have hne := h.ne
    obtain ⟨i, hi⟩ : ∃ i, c.1[c.1.length - 1]? = some i := ⟨_, List.getElem?_eq_getElem (by omega)⟩
    have hb := h.ok i (List.mem_of_getElem? hi)
    obtain ⟨a, ha⟩ : ∃ a, arcs[i.toNat]? = some a := ⟨_, List.getElem?_eq_getElem (by omega)⟩
    have h1 := subl_ex h hx hi0 ha0 (c.1.length - 1) (by omega) i a hi ha v
    have e : c.1.length - 1 + 1 = c.1.length := by omega
    have hl := h.lead (c.1.length - 1) (by omega) i i0 a a0 hi (by rw [e, Nat.mod_self]; exact hi0) ha ha0
    rw [e, List.take_length, hl] at h1
    rw [h1]; omega
/-- How many arcs still have something. -/
def left (x : List Int) : Nat := x.countP fun y => decide (0 < y)
theorem left_le (x : List Int) : left x ≤ x.length := List.countP_le_length
theorem left_lt : ∀ (x y : List Int), x.length = y.length → (∀ i : Nat, nth y i ≤ nth x i) → (left y ≤ left x) ∧ ((∃ i : Nat, i < x.length ∧ 0 < nth x i ∧ ¬ 0 < nth y i) → left y < left x) := by
  intro x
  induction x with
  | nil => intro y h _; cases y with
    | nil => exact ⟨Nat.le_refl _, fun ⟨i, h, _⟩ => absurd h (Nat.not_lt_zero i)⟩
    | cons => simp at h
  | cons a x ih =>
    intro y h hle
    cases y with
    | nil => simp at h
    | cons b y =>
      obtain ⟨h1, h2⟩ := ih y (by simpa using h) fun i => by have := hle (i + 1); simpa [nth] using this
      have h3 : b ≤ a := by have := hle 0; simpa [nth] using this
      unfold left at *
      simp only [List.countP_cons]
      constructor
      · by_cases hb : 0 < b
        · have ha : 0 < a := by omega
          simp [ha, hb]; omega
        · by_cases ha : 0 < a <;> simp [ha, hb] <;> omega
      · rintro ⟨i, hi, hx, hy⟩
        cases i with
        | zero =>
          have hx : 0 < a := by simpa [nth] using hx
          have hy : ¬ 0 < b := by simpa [nth] using hy
          simp [hx, hy]; omega
        | succ i =>
          have := h2 ⟨i, by simpa using hi, by simpa [nth] using hx, by simpa [nth] using hy⟩
          by_cases hb : 0 < b
          · have ha : 0 < a := by omega
            simp [ha, hb]; omega
          · by_cases ha : 0 < a <;> simp [ha, hb] <;> omega
theorem subl_left (h : Cir arcs c) (hx : Bal arcs x) (hm : ∃ i ∈ c.1, c.2 = nth x i.toNat) : left (subl x c.1 c.2) < left x := by
  have hn := subl_nth h hx.len c.1.length (Nat.le_refl _)
  rw [List.take_length] at hn
  refine (left_lt x _ (by rw [subl_len]) fun i => ?_).2 ?_
  · rw [hn i]; have := h.am; split <;> omega
  · obtain ⟨i, hi, e⟩ := hm
    have hb := h.ok i hi
    have := h.am
    refine ⟨i.toNat, by rw [hx.len]; omega, by omega, ?_⟩
    rw [hn, if_pos (by rw [show ((i.toNat : Nat) : Int) = i by omega]; exact hi)]
    omega
theorem subl_add (h : Cir arcs c) (hx : x.length = arcs.length) {f : Nat → Int} (v : Nat) : add1 c f c.1.length v + nth (subl x c.1 c.2) v = f v + nth x v := by
  have hn := subl_nth h hx c.1.length (Nat.le_refl _) v
  rw [List.take_length] at hn
  rw [hn, add1, List.take_length]
  split <;> omega
/-- The least amount along a way. -/
def least (x : List Int) (m : Int) (l : List Int) : Int := l.foldl (fun m i => min m (nth x i.toNat)) m
theorem least_take {l : List Int} {k : Nat} {i m : Int} (h : l[k]? = some i) : least x m (l.take (k + 1)) = min (least x m (l.take k)) (nth x i.toNat) := by
  rw [List.take_add_one, h]; simp [least]
theorem least_zero {l : List Int} {m : Int} : least x m (l.take 0) = m := by simp [least]
theorem least_le : ∀ (l : List Int) (m : Int), least x m l ≤ m ∧ (∀ i ∈ l, least x m l ≤ nth x i.toNat) ∧ (least x m l = m ∨ ∃ i ∈ l, least x m l = nth x i.toNat) := by
  intro l
  induction l with
  | nil => intro m; simp [least]
  | cons j l ih =>
    intro m
    obtain ⟨h1, h2, h3⟩ := ih (min m (nth x j.toNat))
    have e : least x m (j :: l) = least x (min m (nth x j.toNat)) l := rfl
    rw [e]
    refine ⟨by omega, fun i hi => ?_, ?_⟩
    · rcases List.mem_cons.1 hi with rfl | hi
      · omega
      · exact h2 i hi
    · rcases h3 with h3 | ⟨i, hi, h3⟩
      · rcases Int.le_total m (nth x j.toNat) with hh | hh
        · exact .inl (by omega)
        · exact .inr ⟨j, List.mem_cons_self .., by omega⟩
      · exact .inr ⟨i, List.mem_cons_of_mem _ hi, h3⟩

/-- What has been taken away so far. -/
structure Took (arcs : List Arc) (x : List Int) (y : List Int) (cs : List Crc) : Prop where
  bal : Bal arcs y
  cir : ∀ c ∈ cs, Cir arcs c
  few : cs.length + left y ≤ left x
  sum : ∀ v : Nat, addAll cs v + nth y v = nth x v
theorem Took.start (h : Circ arcs x) (hV : Valid N arcs) : Took arcs x x [] := ⟨h.bal hV, by simp, by simp, fun v => by simp [addAll]⟩
theorem Took.step {y : List Int} (h : Took arcs x y cs) (hc : Cir arcs c) (hm : ∀ i ∈ c.1, c.2 ≤ nth y i.toNat) (he : ∃ i ∈ c.1, c.2 = nth y i.toNat) : Took arcs x (subl y c.1 c.2) (cs ++ [c]) := by
  refine ⟨subl_bal hc h.bal hm, fun d hd => ?_, ?_, fun v => ?_⟩
  · rcases List.mem_append.1 hd with hd | hd
    · exact h.cir d hd
    · simp at hd; subst hd; exact hc
  · have := subl_left hc h.bal he
    have := h.few
    rw [List.length_append, List.length_singleton]; omega
  · rw [addAll_snoc, subl_add hc h.bal.len]; exact h.sum v
/-- What Circles answers. -/
inductive CirR (N : Int) (arcs : List Arc) (x : List Int) : List Crc → Int → Prop
  | bad : askd N arcs (row x arcs.length 0 1000000) ≠ 0 → CirR N arcs x [] (askd N arcs (row x arcs.length 0 1000000))
  | no : askd N arcs (row x arcs.length 0 1000000) = 0 → ¬ kept 1000 arcs x = true → CirR N arcs x [] 60
  | yes {cs : List Crc} : askd N arcs (row x arcs.length 0 1000000) = 0 → kept 1000 arcs x = true → (∀ c ∈ cs, Cir arcs c) → cs.length ≤ arcs.length → (∀ v : Nat, addAll cs v = nth x v) → CirR N arcs x cs 0
/-- When nothing is left. -/
theorem Took.done {y : List Int} (h : Took arcs x y cs) (h0 : ∀ i : Nat, i < arcs.length → ¬ 0 < nth y i) : ∀ v : Nat, addAll cs v = nth x v := by
  intro v
  have h1 := h.sum v
  have h2 : nth y v = 0 := by
    rcases Nat.lt_or_ge v arcs.length with hv | hv
    · have h3 := h.bal.nn v _ (nth_get (by rw [h.bal.len]; exact hv))
      have := h0 v hv; omega
    · unfold nth
      rw [List.getD_eq_getElem?_getD, List.getElem?_eq_none (by rw [h.bal.len]; exact hv)]; rfl
  omega
/-- The law of parts. -/
theorem parts {l : List Int} {e f : Int} (h : CirR N arcs x cs e) (he : e = 0) (h2 : FrcR N arcs cs l f) : f = 0 ∧ x = l := by
  cases h with
  | bad g => exact absurd he g
  | no => cases he
  | yes g1 g2 g3 g4 g5 =>
    obtain ⟨hV, hx⟩ := askd_zero.1 g1
    have hx := row_amts.1 hx
    have hl := hV.len
    have hb : ∀ i, i < arcs.length → ¬ 1000000 < addAll cs i := fun i hi => by
      rw [g5 i]
      have := hx.at (nth_get (by rw [hx.len]; exact hi)); omega
    cases h2 with
    | bad g => exact absurd (chk_zero.2 hV) g
    | many _ g => exact absurd g (by omega)
    | arg _ _ g g' => exact absurd (g3 _ g) g'
    | big _ _ _ g g' => exact absurd g' (hb _ g)
    | yes =>
      refine ⟨rfl, List.ext_getElem? fun i => ?_⟩
      rcases Nat.lt_or_ge i arcs.length with hi | hi
      · rw [nth_get (by rw [hx.len]; exact hi)]
        simp [hi, g5]
      · rw [List.getElem?_eq_none (by rw [hx.len]; exact hi), List.getElem?_eq_none (by simp; exact hi)]
end
end Go.Vk.Flow

/- The proof engine, part 21: what was met late. Generic over the program. -/
namespace Go.Vk
open Go
section
variable {P : Program} {b : Frame} {cs : List Frame} {fin : Machine → Prop} {n : Nat} {k : List Item} {ρ : Env} {ds : List Deferred} {w : World} {all : Array Oper} {rest : List Oper}
  {d : Nat} {ty : TypeId} {pos : String} {af : Array Edge} {g : Option (Nat × Bool)} {v : Value} {T : TypeId} {x z : Operand} {α : Type} {E : Elt α} {l : List α} {q : Int}
/-- The head of a slice, to be read. -/
theorem l_head (hr : Rd E w v l) (hg : gOk all n ρ g = true) (hx : ev n ρ x = v) (hz : ev n ρ z = .int .i64 q)
    (hu : ∀ w, (underlying T).run P w = .ok (.slice E.T) w) (hs : ∀ w, (sizeOf E.T).run P w = .ok E.sz w) (hq : 0 ≤ q ∧ q ≤ l.length)
    (h : ∀ v', Rd E w v' (l.take q.toNat) → RunL P b cs fin n all rest k (upd ρ d v') ds w) :
    RunL P b cs fin n all (⟨some d, .slice T x none (some z) none, ty, pos, af, g⟩ :: rest) k ρ ds w := by
  obtain ⟨v', h1, h2⟩ := x_headv (P := P) (ty := ty) hr hx hz hu hs hq
  exact l_x hg (h2 w) (h v' h1)
end
end Go.Vk

/- The proof engine, part 22: conversions that wrap. Generic over the program. -/
namespace Go.Vk
open Go
section
variable {P : Program} {ev : Operand → Value} {w : World} {ty : TypeId} {x y : Operand} {S T T' : TypeId} {a c : Int}
/-- A conversion between kinds of integers, wrapped. -/
theorem x_convertw {s k : IntKind} {u : TypeDesc} (hx : ev x = .int s a) (hs : ∀ w, (underlying S).run P w = .ok u w) (hd : ∀ w, (underlying T).run P w = .ok (.int k) w) : X P ev (.convert S T x) ty w (.int k (k.wrap a)) w :=
  ⟨nofun, fun _ _ _ _ => by
    simp only [execOp, hx, convert, Sem.run_bind, hs, hd, Result.andThen_ok]
    cases u <;> simp [Conv.intToInt, go_sem]⟩
theorem x_remk {k : IntKind} (hx : ev x = .int k a) (hy : ev y = .int k c) (hb : 0 ≤ a ∧ 0 < c) : X P ev (.binOp .rem T x y T') ty w (.int k (a % c)) w := by
  refine ⟨nofun, fun _ _ _ _ => ?_⟩
  have h0 : c ≠ 0 := by omega
  have e : a.tmod c = a % c := Int.tmod_eq_emod_of_nonneg hb.1
  simp [execOp, hx, hy, binOp, eqGuard, Op.intDiv, go_sem, h0, e]
theorem u64_wrap_nonneg (a : Int) : 0 ≤ IntKind.u64.wrap a := by
  unfold IntKind.wrap
  simp only [IntKind.signed, Bool.false_and]
  exact Int.emod_nonneg _ (by decide)
end
end Go.Vk

/- The proof engine, part 23: slices of nets. Generic over the program. -/
namespace Go.Vk
open Go
/-- A net in a slice: its nodes and the header of its arcs. -/
def netE (T : TypeId) : Elt (Int × Hd) where
  T := T
  sz := 2
  enc p := [.int .i64 p.1, hv p.2]
  zero := [.int .i64 0, .slice none 0 0]
  len _ := rfl
  zlen := rfl
  one a x h := by simp at h; rcases h with h | h <;> subst h <;> rfl
  pos := by decide
theorem rd_hv {α : Type} {E : Elt α} {w : World} {v : Value} {l : List α} (h : Rd E w v l) : ∃ d, v = hv d := by
  obtain ⟨a, cap, rfl, _⟩ := h
  exact ⟨(a, l.length, cap), rfl⟩
end Go.Vk
