/- Nets, as plain mathematics, part 4: circulations, what hinders them, and potentials that show a greatest sum. No program in sight. -/
import Derived.Test.YtddapgjjndbejaaVkFlowLead
namespace Go.Vk.Flow
open Go

/-! ### circulations -/

/-- Amounts that are a circulation. -/
structure Circ (arcs : List Arc) (x : List Int) : Prop where
  bds : Bds arcs x
  zero : ∀ v : Nat, ex arcs x v = 0

theorem kept_iff {N : Int} {arcs : List Arc} {x : List Int} (hV : Valid N arcs) (hl : x.length = arcs.length) : kept 1000 arcs x = true ↔ Circ arcs x := by
  simp only [kept, Bool.and_eq_true, List.all_eq_true, List.mem_range, beq_iff_eq]
  constructor
  · rintro ⟨h1, h2⟩
    refine ⟨⟨hl, (within_iff arcs x hl.symm).1 h1⟩, fun v => ?_⟩
    rcases Nat.lt_or_ge v 1000 with h | h
    · exact h2 v h
    · exact ex_out arcs x v hV.ok (by have := hV.max; omega)
  · intro h
    exact ⟨(within_iff arcs x hl.symm).2 h.bds.2, fun v _ => h.zero v⟩

theorem Circ.amts {N : Int} {arcs : List Arc} {x : List Int} (h : Circ arcs x) (hV : Valid N arcs) : Amts arcs x := by
  refine ⟨h.bds.1, fun y hy => ?_⟩
  obtain ⟨i, hi, rfl⟩ := List.mem_iff_getElem.1 hy
  obtain ⟨a, ha⟩ : ∃ a, arcs[i]? = some a := ⟨_, List.getElem?_eq_getElem (by rw [← h.bds.1]; exact hi)⟩
  have h1 := h.bds.2 i a _ ha (List.getElem?_eq_getElem hi)
  have h2 := hV.at ha
  omega

theorem flux_circ {N : Int} {arcs : List Arc} {x : List Int} (hV : Valid N arcs) (h : Circ arcs x) (P : Nat → Bool) : flux P arcs x = 0 := by
  rw [← sm_ex (N := N) P arcs x hV.ok, sm_congr (g := fun _ => 0) (fun v _ => by rw [h.zero]; split <;> rfl), sm_zero]

theorem flux_all : ∀ (as : List Arc) (ys : List Int), flux (fun _ => true) as ys = 0 := by
  intro as
  induction as with
  | nil => intro ys; simp [flux]
  | cons a as ih =>
    intro ys
    cases ys with
    | nil => simp [flux]
    | cons y ys => simp only [flux, ih, if_true]; omega

/-- If no node has too much, none has too little. -/
theorem Cn.circ {N : Int} {arcs : List Arc} {wl x : List Int} {mo p : Nat → Int} (h : Cn N arcs wl x mo p) (hV : Valid N arcs) (hm : ∀ u : Nat, u < 1000 → mo u ≤ 0) : Circ arcs x := by
  refine ⟨h.bds, fun v => ?_⟩
  have hle : ∀ u, ex arcs x u ≤ 0 := fun u => by
    rcases Nat.lt_or_ge u 1000 with h1 | h1
    · have := hm u h1; rw [h.meq] at this; exact this
    · rw [ex_out arcs x u hV.ok (by have := hV.max; omega)]; omega
  rcases Nat.lt_or_ge v N.toNat with hv | hv
  · apply Classical.byContradiction
    intro hne
    have h1 : sm (fun u => ex arcs x u) N.toNat = 0 := by
      rw [← flux_all arcs x, ← sm_ex (N := N) _ arcs x hV.ok]
      exact sm_congr fun u _ => by simp
    have h2 := sm_pos (f := fun u => 0 - ex arcs x u) (n := N.toNat) (u := v) (fun u _ => by have := hle u; omega) hv (by have := hle v; omega)
    rw [sm_sub, sm_zero, h1] at h2
    exact absurd h2 (by decide)
  · exact ex_out arcs x v hV.ok (by omega)

theorem cut_le (U : List Int) (P : Nat → Bool) : ∀ (as : List Arc) (ys : List Int), as.length = ys.length → (∀ a ∈ as, (a.src ∈ U ↔ P a.src.toNat = true) ∧ (a.dst ∈ U ↔ P a.dst.toNat = true)) →
    (∀ (i : Nat) (a : Arc) (y : Int), as[i]? = some a → ys[i]? = some y → a.lo ≤ y ∧ y ≤ a.hi) → csum (cutl U as) ≤ - flux P as ys := by
  intro as
  induction as with
  | nil => intro ys _ _ _; simp [cutl, csum, flux]
  | cons a as ih =>
    intro ys hl hU h
    cases ys with
    | nil => simp at hl
    | cons y ys =>
      have h1 := ih ys (by simpa using hl) (fun b hb => hU b (List.mem_cons_of_mem _ hb)) fun i b z hb hz => h (i + 1) b z (by simpa using hb) (by simpa using hz)
      have h2 := h 0 a y rfl rfl
      obtain ⟨u1, u2⟩ := hU a (List.mem_cons_self ..)
      have hc : cutl U (a :: as) = cut1 U a ++ cutl U as := by simp [cutl]
      rw [hc, csum_append]
      simp only [flux]
      unfold cut1
      by_cases c1 : P a.src.toNat = true <;> by_cases c2 : P a.dst.toNat = true
      · have e1 := u1.2 c1; have e2 := u2.2 c2
        simp [e1, e2, c1, c2, csum] at h1 ⊢; omega
      · have e1 := u1.2 c1; have e2 : ¬ a.dst ∈ U := fun q => c2 (u2.1 q)
        simp [e1, e2, c1, c2, csum, csum1] at h1 ⊢; omega
      · have e1 : ¬ a.src ∈ U := fun q => c1 (u1.1 q); have e2 := u2.2 c2
        simp [e1, e2, c1, c2, csum, csum1] at h1 ⊢; omega
      · have e1 : ¬ a.src ∈ U := fun q => c1 (u1.1 q); have e2 : ¬ a.dst ∈ U := fun q => c2 (u2.1 q)
        simp [e1, e2, c1, c2, csum] at h1 ⊢; omega

/-- Where there is an obstacle nothing is a circulation. -/
theorem hind_no {N : Int} {arcs : List Arc} {x : List Int} {A : Int} {ns : List Int} (hV : Valid N arcs) (h : hind N arcs A ns = true) (hc : Circ arcs x) : False := by
  by_cases hA : 0 ≤ A
  · obtain ⟨a, ha, hlt⟩ := hind_bad h hA
    obtain ⟨y, hy⟩ : ∃ y, x[A.toNat]? = some y := ⟨_, List.getElem?_eq_getElem (by rw [hc.bds.1]; exact (List.getElem?_eq_some_iff.1 ha).1)⟩
    have := hc.bds.2 _ a y ha hy
    omega
  · obtain ⟨_, hasc, hpos⟩ := hind_cut h hA
    have h1 := cut_le ns (fun v => decide ((v : Int) ∈ ns)) arcs x hc.bds.1.symm (fun a ha => by
      have hok := okArc_iff.1 (hV.ok a ha)
      have e1 : ((a.src.toNat : Nat) : Int) = a.src := by omega
      have e2 : ((a.dst.toNat : Nat) : Int) = a.dst := by omega
      simp [e1, e2]) hc.bds.2
    rw [flux_circ hV hc] at h1
    omega

/-! ### sums and bounds -/

/-- The sum of what the arcs weigh with potentials. -/
def rdot (p : List Int) : List Arc → List Int → List Int → Int
  | a :: as, y :: ys, q :: qs => rst p a q * y + rdot p as ys qs
  | _, _, _ => 0
/-- What potentials add to a sum. -/
def lift (f : Nat → Int) : List Arc → List Int → Int
  | a :: as, y :: ys => (f a.dst.toNat * y - f a.src.toNat * y) + lift f as ys
  | _, _ => 0
theorem rdot_eq {p : List Int} : ∀ (as : List Arc) (ys qs : List Int), as.length = ys.length → as.length = qs.length → rdot p as ys qs = dot qs ys - lift (nth p) as ys := by
  intro as
  induction as with
  | nil => intro ys qs h1 h2; cases ys with
    | nil => cases qs with
      | nil => rfl
      | cons => simp at h2
    | cons => simp at h1
  | cons a as ih =>
    intro ys qs h1 h2
    cases ys with
    | nil => simp at h1
    | cons y ys =>
      cases qs with
      | nil => simp at h2
      | cons q qs =>
        simp only [rdot, dot, lift, rst, ih ys qs (by simpa using h1) (by simpa using h2), Int.add_mul, Int.sub_mul]
        omega
theorem sm_mul_one (f : Nat → Int) (d y : Int) (n : Nat) : sm (fun v => f v * (if d = (v : Int) then y else 0)) n = if 0 ≤ d ∧ d < n then f d.toNat * y else 0 := by
  induction n with
  | zero => simp only [sm]; rw [if_neg (by omega)]
  | succ n ih =>
    simp only [sm, ih]
    by_cases e : d = (n : Int)
    · have e1 : d.toNat = n := by omega
      rw [if_neg (by omega), if_pos e, if_pos (by omega), e1, Int.zero_add]
    · rw [if_neg e, Int.mul_zero, Int.add_zero]
      by_cases h1 : 0 ≤ d ∧ d < n
      · rw [if_pos h1, if_pos (by omega)]
      · rw [if_neg h1, if_neg (by omega)]
theorem sm_lift {N : Int} (f : Nat → Int) : ∀ (as : List Arc) (ys : List Int), (∀ a ∈ as, okArc N a = true) → sm (fun v => f v * ex as ys v) N.toNat = lift f as ys := by
  intro as
  induction as with
  | nil =>
    intro ys _
    simp only [ex, lift, Int.mul_zero, sm_zero]
  | cons a as ih =>
    intro ys h
    cases ys with
    | nil => simp only [ex, lift, Int.mul_zero, sm_zero]
    | cons y ys =>
      have hok := okArc_iff.1 (h a (List.mem_cons_self ..))
      have h1 := ih ys fun b hb => h b (List.mem_cons_of_mem _ hb)
      have h2 := sm_mul_one f a.dst y N.toNat
      have h3 := sm_mul_one f a.src y N.toNat
      rw [if_pos (by omega)] at h2 h3
      simp only [lift, ← h1, ← h2, ← h3]
      rw [← sm_sub, ← sm_add]
      apply sm_congr
      intro v _
      simp only [ex, Int.mul_add, Int.mul_sub]
theorem lift_circ {N : Int} {arcs : List Arc} {x : List Int} (hV : Valid N arcs) (h : Circ arcs x) (f : Nat → Int) : lift f arcs x = 0 := by
  rw [← sm_lift (N := N) f arcs x hV.ok, sm_congr (g := fun _ => 0) (fun v _ => by rw [h.zero, Int.mul_zero]), sm_zero]
theorem dot_rdot {N : Int} {arcs : List Arc} {x wl : List Int} (hV : Valid N arcs) (h : Circ arcs x) (hw : wl.length = arcs.length) (p : List Int) : dot wl x = rdot p arcs x wl := by
  rw [rdot_eq arcs x wl h.bds.1.symm hw.symm, lift_circ hV h, Int.sub_zero]
theorem part_ge {p : List Int} {a : Arc} {y q : Int} (h : a.lo ≤ y ∧ y ≤ a.hi) : rst p a q * y ≤ part p a q := by
  unfold part
  split
  · exact Int.mul_le_mul_of_nonneg_left h.2 (by omega)
  · split
    · exact Int.mul_le_mul_of_nonpos_left (by omega) h.1
    · have : rst p a q = 0 := by omega
      rw [this, Int.zero_mul]; omega
theorem rdot_le {p : List Int} : ∀ (as : List Arc) (ys qs : List Int), (∀ (i : Nat) (a : Arc) (y : Int), as[i]? = some a → ys[i]? = some y → a.lo ≤ y ∧ y ≤ a.hi) → as.length = ys.length → rdot p as ys qs ≤ bnd p as qs := by
  intro as
  induction as with
  | nil => intro ys qs _ _; simp [rdot, bnd]
  | cons a as ih =>
    intro ys qs h hl
    cases ys with
    | nil => simp at hl
    | cons y ys =>
      cases qs with
      | nil => simp [rdot, bnd]
      | cons q qs =>
        have h1 := ih ys qs (fun i b z hb hz => h (i + 1) b z (by simpa using hb) (by simpa using hz)) (by simpa using hl)
        have h2 := part_ge (p := p) (q := q) (h 0 a y rfl rfl)
        simp only [rdot, bnd]; omega
/-- The sum of a circulation is at most the bound that any potentials show. -/
theorem dual {N : Int} {arcs : List Arc} {x wl : List Int} (hV : Valid N arcs) (h : Circ arcs x) (hw : wl.length = arcs.length) (p : List Int) : dot wl x ≤ bnd p arcs wl := by
  rw [dot_rdot hV h hw p]
  exact rdot_le arcs x wl h.bds.2 h.bds.1.symm

/-- Amounts at the ends that potentials show. -/
def Slack (p : List Int) (arcs : List Arc) (x wl : List Int) : Prop :=
  ∀ (i : Nat) (a : Arc) (y q : Int), arcs[i]? = some a → x[i]? = some y → wl[i]? = some q → (0 < rst p a q → y = a.hi) ∧ (rst p a q < 0 → y = a.lo)
theorem rdot_slack {p : List Int} : ∀ (as : List Arc) (ys qs : List Int), Slack p as ys qs → as.length = ys.length → rdot p as ys qs = bnd p as qs := by
  intro as
  induction as with
  | nil => intro ys qs _ _; simp [rdot, bnd]
  | cons a as ih =>
    intro ys qs h hl
    cases ys with
    | nil => simp at hl
    | cons y ys =>
      cases qs with
      | nil => simp [rdot, bnd]
      | cons q qs =>
        have h1 := ih ys qs (fun i b z r hb hz hr => h (i + 1) b z r (by simpa using hb) (by simpa using hz) (by simpa using hr)) (by simpa using hl)
        have h2 := h 0 a y q rfl rfl rfl
        have h3 : rst p a q * y = part p a q := by
          unfold part
          split
          · rename_i hc; rw [h2.1 hc]
          · split
            · rename_i hc; rw [h2.2 hc]
            · have : rst p a q = 0 := by omega
              rw [this, Int.zero_mul]
        simp only [rdot, bnd, h1, h3]
/-- A circulation at the ends that potentials show has the sum that they bound. -/
theorem slack_eq {N : Int} {arcs : List Arc} {x wl p : List Int} (hV : Valid N arcs) (h : Circ arcs x) (hw : wl.length = arcs.length) (hs : Slack p arcs x wl) : dot wl x = bnd p arcs wl := by
  rw [dot_rdot hV h hw p]
  exact rdot_slack arcs x wl hs h.bds.1.symm

/-! ### the search for potentials -/

abbrev P0 : Nat → Int := fun _ => 0
theorem carp_splice {N : Int} {va vx vw : Value} {m p f : Nat → Int} : splice (carC N va vx vw m p) 1004 (tab 1000 f) = carC N va vx vw m f := by
  have h1 := carp_len (N := N) (va := va) (vx := vx) (vw := vw) (m := m)
  rw [carp_eq, carp_eq, splice, List.append_nil, List.append_nil, tab_length]
  rw [List.take_append_of_le_length (by omega), List.take_of_length_le (by omega), List.drop_eq_nil_of_le (by rw [List.length_append, tab_length]; omega), List.append_nil]
/-- Costs of nodes, while they are made smaller. -/
structure Sh (p c : Nat → Int) : Prop where
  nn : ∀ v, 0 ≤ p v
  lo : ∀ v, p v - 1000000 ≤ c v
  hi : ∀ v, c v ≤ 0
/-- No step among these makes a cost smaller. -/
def Still (t : List Stp) (c : Nat → Int) : Prop := ∀ s, s ∈ t → c s.dst.toNat ≤ c s.src.toNat + s.cost
def low (c : Nat → Int) : Nat := ((List.range 1000).map fun v => (c v + 1000000).toNat).sum
section
variable {N : Int} {arcs : List Arc} {wl x : List Int} {mo p c : Nat → Int}

theorem Sh.start (hp : ∀ v, 0 ≤ p v ∧ p v ≤ 1000000) : Sh p fun _ => 0 := ⟨fun v => (hp v).1, fun v => by have := hp v; omega, fun v => Int.le_refl _⟩

theorem step0 (hr : ∀ s, s ∈ stps p 0 arcs x wl → 0 ≤ s.cost) (hw : Wts arcs wl) {s : Stp} (hs : s ∈ stps P0 0 arcs x wl) : p s.dst.toNat - p s.src.toNat ≤ s.cost ∧ -1000 ≤ s.cost ∧ s.cost ≤ 1000 := by
  obtain ⟨d, hd1, hd2, hd⟩ := step_cost hw hs
  obtain ⟨c', h1, h2, _⟩ := hd p
  obtain ⟨c0, _, h4, h5⟩ := hd P0
  have := hr _ h1
  have := h5 rfl
  simp only [P0] at h4
  simp only at *
  omega

theorem Sh.relax (h : Sh p c) (hr : ∀ s, s ∈ stps p 0 arcs x wl → 0 ≤ s.cost) (hw : Wts arcs wl) (hV : Valid N arcs) {s : Stp} (hs : s ∈ stps P0 0 arcs x wl) (hlt : c s.src.toNat + s.cost < c s.dst.toNat) :
    Sh p (upf c s.dst.toNat (c s.src.toNat + s.cost)) ∧ low (upf c s.dst.toNat (c s.src.toNat + s.cost)) < low c := by
  have h1 := step0 hr hw hs
  have h2 := h.lo s.src.toNat
  have h3 := h.hi s.dst.toNat
  have hok := stps_ok hV hs
  have hpd := h.lo s.dst.toNat
  have hpn := h.nn s.dst.toNat
  refine ⟨⟨h.nn, fun v => ?_, fun v => ?_⟩, ?_⟩
  · unfold upf; split
    · rename_i e; subst e; omega
    · exact h.lo v
  · unfold upf; split
    · omega
    · exact h.hi v
  · unfold low
    refine sum_lt (u := s.dst.toNat) (fun v => ?_) (List.mem_range.2 (by have := hV.max; omega)) ?_
    · unfold upf; split
      · rename_i e; subst e; omega
      · exact Nat.le_refl _
    · simp only [upf, if_true]
      omega

/-- What a round over steps has done. -/
def Rd1 (p c : Nat → Int) (t : List Stp) (c' : Nat → Int) (m : Bool) : Prop := Sh p c' ∧ (m = false → c' = c ∧ Still t c) ∧ (m = true → low c' < low c)
def mu (c : Nat → Int) (m : Bool) : Nat := bif m then low c + 1 else 0
theorem Rd1.start (h : Sh p c) : Rd1 p c [] c false := ⟨h, fun _ => ⟨rfl, fun _ h => by cases h⟩, fun h => by cases h⟩
theorem Rd1.keep {c' : Nat → Int} {m : Bool} {t : List Stp} {s : Stp} (h : Rd1 p c t c' m) (hn : ¬ c' s.src.toNat + s.cost < c' s.dst.toNat) : Rd1 p c (t ++ [s]) c' m := by
  refine ⟨h.1, fun hm => ⟨(h.2.1 hm).1, fun u hu => ?_⟩, h.2.2⟩
  rcases List.mem_append.1 hu with hu | hu
  · exact (h.2.1 hm).2 u hu
  · have : u = s := by simpa using hu
    subst this
    rw [(h.2.1 hm).1] at hn
    omega
theorem Rd1.relax {c' : Nat → Int} {m : Bool} {t : List Stp} {s : Stp} (h : Rd1 p c t c' m) (hr : ∀ s, s ∈ stps p 0 arcs x wl → 0 ≤ s.cost) (hw : Wts arcs wl) (hV : Valid N arcs) (hs : s ∈ stps P0 0 arcs x wl) (hlt : c' s.src.toNat + s.cost < c' s.dst.toNat) :
    Rd1 p c (t ++ [s]) (upf c' s.dst.toNat (c' s.src.toNat + s.cost)) true := by
  obtain ⟨h1, h2⟩ := h.1.relax hr hw hV hs hlt
  refine ⟨h1, fun h => (by cases h), fun _ => ?_⟩
  cases m with
  | false => rw [(h.2.1 rfl).1] at h2 ⊢; exact h2
  | true => have := h.2.2 rfl; omega
theorem Rd1.less {c' : Nat → Int} {m : Bool} {t : List Stp} (h : Rd1 p c t c' m) : mu c' m < mu c true := by
  cases m with
  | false => simp [mu]
  | true => have := h.2.2 rfl; simp [mu]; exact this
theorem Rd1.still {c' : Nat → Int} {m : Bool} {t : List Stp} (h : Rd1 p c t c' m) (hm : m = false) : Still t c' := by rw [(h.2.1 hm).1]; exact (h.2.1 hm).2

/-- The potentials that costs give. -/
def outp (N : Int) (c : Nat → Int) : List Int := (List.range N.toNat).map fun v => -(c v)
theorem outp_len (N : Int) (c : Nat → Int) : (outp N c).length = N.toNat := by simp [outp]
theorem outp_get {N : Int} {c : Nat → Int} {v : Nat} (h : v < N.toNat) : (outp N c)[v]? = some (-(c v)) := by simp [outp, h]
theorem Sh.pts (h : Sh p c) (hN : 1 ≤ N) : Pts N (outp N c) := by
  refine ⟨by rw [outp_len]; omega, fun y hy => ?_⟩
  simp only [outp, List.mem_map, List.mem_range] at hy
  obtain ⟨v, _, rfl⟩ := hy
  have h1 := h.lo v
  have h2 := h.hi v
  have h3 := h.nn v
  omega
theorem Still.slack (hV : Valid N arcs) (hb : Bds arcs x) (hs : Still (stps P0 0 arcs x wl) c) : Slack (outp N c) arcs x wl := by
  intro i a y q ha hy hq
  have hok := hV.at ha
  have h1 : nth (outp N c) a.src.toNat = -(c a.src.toNat) := nth_of (outp_get (by omega))
  have h2 : nth (outp N c) a.dst.toNat = -(c a.dst.toNat) := nth_of (outp_get (by omega))
  have h3 := hb.2 i a y ha hy
  unfold rst
  rw [h1, h2]
  refine ⟨fun hp => ?_, fun hp => ?_⟩
  · apply Classical.byContradiction
    intro hne
    have h4 := hs _ (mem_stps_of (p := P0) ha hy hq (mem_stp1.2 (.inl ⟨by omega, rfl⟩)))
    simp only [fwd, cst, P0] at h4
    omega
  · apply Classical.byContradiction
    intro hne
    have h4 := hs _ (mem_stps_of (p := P0) ha hy hq (mem_stp1.2 (.inr ⟨by omega, rfl⟩)))
    simp only [bwd, cst, P0] at h4
    omega
end

/-- A circulation with the greatest sum, and potentials that show it. -/
structure Opt (N : Int) (arcs : List Arc) (wl x q : List Int) : Prop where
  circ : Circ arcs x
  pts : Pts N q
  slack : Slack q arcs x wl
theorem Opt.eq {N : Int} {arcs : List Arc} {wl x q : List Int} (h : Opt N arcs wl x q) (hV : Valid N arcs) (hw : wl.length = arcs.length) : dot wl x = bnd q arcs wl := slack_eq hV h.circ hw h.slack
theorem Opt.max {N : Int} {arcs : List Arc} {wl x q y : List Int} (h : Opt N arcs wl x q) (hV : Valid N arcs) (hw : wl.length = arcs.length) (hy : Circ arcs y) : dot wl y ≤ dot wl x := by
  rw [h.eq hV hw]; exact dual hV hy hw q
/-- Equal sums, so the other circulation lies at the same ends. -/
theorem slack_of {p : List Int} : ∀ (as : List Arc) (ys qs : List Int), (∀ (i : Nat) (a : Arc) (y : Int), as[i]? = some a → ys[i]? = some y → a.lo ≤ y ∧ y ≤ a.hi) → as.length = ys.length → bnd p as qs ≤ rdot p as ys qs → Slack p as ys qs := by
  intro as
  induction as with
  | nil => intro ys qs _ _ _ i a y q ha; simp at ha
  | cons a as ih =>
    intro ys qs h hl hle
    cases ys with
    | nil => simp at hl
    | cons y ys =>
      cases qs with
      | nil => intro i b z r _ _ hr; simp at hr
      | cons q qs =>
        have h0 := fun (i : Nat) (b : Arc) (z : Int) hb hz => h (i + 1) b z (by simpa using hb) (by simpa using hz)
        have h1 := rdot_le (p := p) as ys qs h0 (by simpa using hl)
        have h2 := part_ge (p := p) (q := q) (h 0 a y rfl rfl)
        have h5 := h 0 a y rfl rfl
        simp only [rdot, bnd] at hle
        have h3 := ih ys qs h0 (by simpa using hl) (by omega)
        intro i b z r hb hz hr
        cases i with
        | zero =>
          simp at hb hz hr
          subst hb; subst hz; subst hr
          have h4 : part p a q ≤ rst p a q * y := by omega
          refine ⟨fun hp => ?_, fun hp => ?_⟩
          · rw [part_pos hp] at h4
            have := Int.le_of_mul_le_mul_left h4 hp
            omega
          · rw [part_neg hp] at h4
            apply Classical.byContradiction
            intro hne
            have h6 : a.lo < y := by omega
            have h7 := Int.mul_lt_mul_of_neg_left h6 hp
            omega
        | succ i => exact h3 i b z r (by simpa using hb) (by simpa using hz) (by simpa using hr)
theorem Opt.other {N : Int} {arcs : List Arc} {wl x q y : List Int} (h : Opt N arcs wl x q) (hV : Valid N arcs) (hw : wl.length = arcs.length) (hy : Circ arcs y) (he : dot wl x ≤ dot wl y) : Slack q arcs y wl := by
  refine slack_of arcs y wl hy.bds.2 hy.bds.1.symm ?_
  rw [← dot_rdot hV hy hw, ← h.eq hV hw]; exact he

/-! ### one arc -/

/-- Weights in which one arc alone has one. -/
def unit (n : Nat) (i : Nat) (k : Int) : List Int := (List.replicate n 0).set i k
theorem unit_length (n i : Nat) (k : Int) : (unit n i k).length = n := by simp [unit]
theorem dot_zero : ∀ (n : Nat) (x : List Int), dot (List.replicate n 0) x = 0 := by
  intro n
  induction n with
  | zero => intro x; simp [dot]
  | succ n ih =>
    intro x
    cases x with
    | nil => simp [List.replicate_succ, dot]
    | cons y x => simp [List.replicate_succ, dot, ih]
theorem dot_unit {k y : Int} : ∀ (n i : Nat) (x : List Int), i < n → x[i]? = some y → dot (unit n i k) x = k * y := by
  intro n
  induction n with
  | zero => intro i x h; omega
  | succ n ih =>
    intro i x h hx
    cases x with
    | nil => simp at hx
    | cons z x =>
      cases i with
      | zero => simp at hx; subst hx; simp [unit, List.replicate_succ, dot, dot_zero]
      | succ i =>
        have := ih i x (by omega) (by simpa using hx)
        simp only [unit, List.replicate_succ, List.set_cons_succ, dot] at this ⊢
        rw [this]; omega
theorem unit_wts {arcs : List Arc} {i : Nat} {k : Int} (h : -1000 ≤ k ∧ k ≤ 1000) : Wts arcs (unit arcs.length i k) := by
  refine ⟨unit_length .., fun y hy => ?_⟩
  rcases List.mem_or_eq_of_mem_set hy with h1 | h1
  · have := List.eq_of_mem_replicate h1; omega
  · omega
end Go.Vk.Flow
