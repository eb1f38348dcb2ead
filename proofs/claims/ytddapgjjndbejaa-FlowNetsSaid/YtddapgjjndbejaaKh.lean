/- Texts joined for a claim: VkFlowLaws, VkFlowLaws2, VkFlowRef, VkFlowLaws3, VkFlowLaws4, VkSame, VkRow. -/
import Derived.Test.YtddapgjjndbejaaKc
import Derived.Carry
import Derived.ProofKit
import Derived.OpenShut
import Derived.Lib.SmallJoins
/- Nets, as plain mathematics, part 8: the laws. No program in sight. -/
namespace Go.Vk.Flow
open Go

/-- Is it a net of which the laws speak? -/
def smallB (N : Int) (n : Nat) : Bool := (decide ((n : Int) ≤ 120) && (decide (N ≤ 40) || decide (1000 < N))) || (decide (4000 < (n : Int)) && decide ((n : Int) ≤ 4010))
theorem smallB_le {N : Int} {n : Nat} (h : smallB N n = true) : n ≤ 4010 := by
  simp [smallB] at h; omega

/-! ### nets with the same ends -/

def Ends (a b : List Arc) : Prop := b.length = a.length ∧ ∀ (i : Nat) (x y : Arc), a[i]? = some x → b[i]? = some y → y.src = x.src ∧ y.dst = x.dst
theorem ex_ends : ∀ (a b : List Arc) (ys : List Int), Ends a b → ∀ v, ex b ys v = ex a ys v := by
  intro a
  induction a with
  | nil => intro b ys h v; cases b with
    | nil => rfl
    | cons => simp [Ends] at h
  | cons x a ih =>
    intro b ys h v
    cases b with
    | nil => simp [Ends] at h
    | cons y b =>
      cases ys with
      | nil => simp [ex]
      | cons z ys =>
        have h0 := h.2 0 x y rfl rfl
        have h1 : Ends a b := ⟨by simpa using h.1, fun i p q hp hq => h.2 (i + 1) p q (by simpa using hp) (by simpa using hq)⟩
        simp only [ex, ih b ys h1 v, h0.1, h0.2]

/-- The second net is no wider. -/
def Nrw (a b : List Arc) : Prop := b.length = a.length ∧ ∀ (i : Nat) (x y : Arc), a[i]? = some x → b[i]? = some y → (y.src = x.src ∧ y.dst = x.dst) ∧ x.lo ≤ y.lo ∧ y.hi ≤ x.hi
theorem Nrw.ends {a b : List Arc} (h : Nrw a b) : Ends a b := ⟨h.1, fun i x y hx hy => (h.2 i x y hx hy).1⟩
theorem Nrw.circ {a b : List Arc} {x : List Int} (h : Nrw a b) (hc : Circ b x) : Circ a x := by
  refine ⟨⟨hc.bds.1.trans h.1, fun i p y hp hy => ?_⟩, fun v => by rw [← ex_ends a b x h.ends v]; exact hc.zero v⟩
  obtain ⟨q, hq⟩ : ∃ q, b[i]? = some q := ⟨_, List.getElem?_eq_getElem (by rw [h.1]; exact (List.getElem?_eq_some_iff.1 hp).1)⟩
  have h1 := h.2 i p q hp hq
  have h2 := hc.bds.2 i q y hq hy
  omega

/-! ### narrowed nets -/
section
variable {N : Int} {arcs : List Arc} {i lo hi r : Int}
theorem nar1_nrw (a : Arc) (lo hi r : Int) : ((nar1 a lo hi r).src = a.src ∧ (nar1 a lo hi r).dst = a.dst) ∧ a.lo ≤ (nar1 a lo hi r).lo ∧ (nar1 a lo hi r).hi ≤ a.hi := by
  unfold nar1 narHi narLo
  split <;> rename_i h1 <;> split <;> rename_i h2 <;> simp at * <;> omega
theorem nar_nrw (arcs : List Arc) (j : Nat) (lo hi r : Int) : Nrw arcs (nar arcs j lo hi r) := by
  unfold nar
  cases ha : arcs[j]? with
  | none => exact ⟨rfl, fun k x y hx hy => by simp only at hy; rw [hx] at hy; cases hy; exact ⟨⟨rfl, rfl⟩, Int.le_refl _, Int.le_refl _⟩⟩
  | some a =>
    refine ⟨List.length_set .., fun k x y hx hy => ?_⟩
    simp only at hy
    rw [List.getElem?_set] at hy
    split at hy
    · rename_i e
      subst e
      rw [ha] at hx
      cases hx
      split at hy
      · cases hy; exact nar1_nrw ..
      · cases hy
    · rw [hx] at hy; cases hy; exact ⟨⟨rfl, rfl⟩, Int.le_refl _, Int.le_refl _⟩
theorem nar_valid (h : narE N arcs i lo hi r = 0) : Valid N (nar arcs i.toNat lo hi r) := by
  obtain ⟨hV, hi0, hl, hh, hr⟩ := narE_zero.1 h
  unfold nar
  cases ha : arcs[i.toNat]? with
  | none => exact hV
  | some a =>
    have hok := hV.at ha
    refine ⟨hV.pos, hV.max, by rw [List.length_set]; exact hV.len, fun b hb => ?_⟩
    rcases List.mem_or_eq_of_mem_set hb with h1 | h1
    · exact hV.ok b h1
    · subst h1
      rw [okArc_iff]
      unfold nar1 narHi narLo
      split <;> rename_i h1 <;> split <;> rename_i h2 <;> simp at * <;> omega
theorem nar_len : (nar arcs i.toNat lo hi r).length = arcs.length := (nar_nrw arcs i.toNat lo hi r).1
theorem askd_valid {arcs : List Arc} (hV : Valid N arcs) (p : Bool) : askd N arcs p = if p = true then 0 else 1 := by rw [askd, if_neg (fun h => h (chk_zero.2 hV))]
theorem nar_askd (h : narE N arcs i lo hi r = 0) (x : List Int) : askd N (nar arcs i.toNat lo hi r) (row x (nar arcs i.toNat lo hi r).length 0 1000000) = askd N arcs (row x arcs.length 0 1000000) := by
  rw [askd_valid (nar_valid h), askd_valid (narE_zero.1 h).1, nar_len]
theorem keptE {N : Int} {arcs : List Arc} {x : List Int} : (decide (askd N arcs (row x arcs.length 0 1000000) = 0) && kept 1000 arcs x) = true ↔ Valid N arcs ∧ Circ arcs x := by
  rw [Bool.and_eq_true, decide_eq_true_eq, askd_zero]
  constructor
  · rintro ⟨⟨hV, hr⟩, hk⟩
    exact ⟨hV, (kept_iff hV (row_amts.1 hr).len).1 hk⟩
  · rintro ⟨hV, hc⟩
    exact ⟨⟨hV, row_amts.2 (hc.amts hV)⟩, (kept_iff hV hc.bds.1).2 hc⟩
theorem nar_kept (h : narE N arcs i lo hi r = 0) {x : List Int} (hk : (decide (askd N (nar arcs i.toNat lo hi r) (row x (nar arcs i.toNat lo hi r).length 0 1000000) = 0) && kept 1000 (nar arcs i.toNat lo hi r) x) = true) :
    (decide (askd N arcs (row x arcs.length 0 1000000) = 0) && kept 1000 arcs x) = true :=
  keptE.2 ⟨(narE_zero.1 h).1, (nar_nrw ..).circ (keptE.1 hk).2⟩
/-- A net no wider has no greater sum. -/
theorem GrR.narrow {a b : List Arc} {wl x p y q : List Int} {n m j k : Int} (hn : Nrw a b) (hV : Valid N a) (h1 : GrR N a wl n x p j) (h2 : GrR N b wl m y q k) (hk : k = 0) : j = 0 ∧ m ≤ n := by
  cases h2 with
  | bad h => exact absurd hk h
  | no => exact absurd hk (by decide)
  | yes _ hw2 ho2 =>
    have hw : Wts a wl := ⟨hw2.len.trans hn.1, hw2.bd⟩
    have hc := hn.circ ho2.circ
    cases h1 with
    | bad h => exact absurd (askw_zero.2 ⟨hV, hw⟩) h
    | no _ _ h => exact (h.no hV hc).elim
    | yes _ _ ho1 => exact ⟨rfl, ho1.max hV hw.len hc⟩
theorem RaR.narrow {a b : List Arc} {o c d c' d' q r : Int} (hn : Nrw a b) (hV : Valid N a) (h1 : RaR N a o c d q) (h2 : RaR N b o c' d' r) (hr : r = 0) : q = 0 ∧ c ≤ c' ∧ d' ≤ d := by
  cases h2 with
  | bad h => exact absurd hr h
  | no => exact absurd hr (by decide)
  | yes h0 o1 o2 =>
    have hb := aski_zero.1 h0
    have h3 : aski N a o = 0 := aski_zero.2 ⟨hV, hb.2.1, by have := hb.2.2; have := hn.1; omega⟩
    have c1 := hn.circ o1.circ
    have c2 := hn.circ o2.circ
    have hl : o.toNat < a.length := by have := hb.2.2; have := hn.1; omega
    cases h1 with
    | bad h => exact absurd h3 h
    | no _ h => exact (h.no hV c1).elim
    | yes _ p1 p2 =>
      have m1 := p1.max hV (unit_length ..) c1
      have m2 := p2.max hV (unit_length ..) c2
      rw [p1.unit_eq hl, dot_unit _ _ _ hl (nth_get (by rw [c1.bds.1]; exact hl))] at m1
      rw [p2.unit_eq hl, dot_unit _ _ _ hl (nth_get (by rw [c2.bds.1]; exact hl))] at m2
      exact ⟨rfl, by omega, by omega⟩
end
end Go.Vk.Flow

/- Nets, as plain mathematics, part 9: the laws, continued. No program in sight. -/
namespace Go.Vk.Flow
open Go

def Amtb (arcs : List Arc) (x : List Int) : Bool := row x arcs.length 0 1000000
def Wtb (arcs : List Arc) (x : List Int) : Bool := row x arcs.length (-1000) 1000
def Ptb (N : Int) (x : List Int) : Bool := row x N (-10000000) 10000000
theorem amtb {arcs : List Arc} {x : List Int} : Amtb arcs x = true ↔ Amts arcs x := row_amts
theorem wtb {arcs : List Arc} {x : List Int} : Wtb arcs x = true ↔ Wts arcs x := row_wts
theorem ptb {N : Int} {x : List Int} : Ptb N x = true ↔ Pts N x := row_pts

/-- What Kept answers. -/
def KeptR (N : Int) (arcs : List Arc) (x : List Int) (k : Bool) (e : Int) : Prop := e = askd N arcs (Amtb arcs x) ∧ (k = true ↔ Valid N arcs ∧ Circ arcs x)
def SumR (N : Int) (arcs : List Arc) (w x : List Int) (s e : Int) : Prop := e = askd N arcs (Wtb arcs w && Amtb arcs x) ∧ s = if e = 0 then dot w x else 0
def BoundR (N : Int) (arcs : List Arc) (w p : List Int) (b e : Int) : Prop := e = askd N arcs (Wtb arcs w && Ptb N p) ∧ b = if e = 0 then bnd p arcs w else 0
def BestR (N : Int) (arcs : List Arc) (w x p : List Int) (k : Bool) (e : Int) : Prop := e = askd N arcs (Wtb arcs w && Amtb arcs x && Ptb N p) ∧ (k = true ↔ e = 0 ∧ Circ arcs x ∧ dot w x = bnd p arcs w)
def ChkOR (N : Int) (arcs : List Arc) (A : Int) (ns : List Int) (k : Bool) (e : Int) : Prop := e = chk N arcs ∧ k = (decide (e = 0) && hind N arcs A ns)

section
variable {N : Int} {arcs : List Arc} {w x p : List Int}
theorem KeptR.of : KeptR N arcs x (decide (askd N arcs (Amtb arcs x) = 0) && kept 1000 arcs x) (askd N arcs (Amtb arcs x)) := ⟨rfl, keptE⟩
theorem SumR.of : SumR N arcs w x (if askd N arcs (Wtb arcs w && Amtb arcs x) = 0 then dot w x else 0) (askd N arcs (Wtb arcs w && Amtb arcs x)) := ⟨rfl, rfl⟩
theorem BoundR.of : BoundR N arcs w p (if askd N arcs (Wtb arcs w && Ptb N p) = 0 then bnd p arcs w else 0) (askd N arcs (Wtb arcs w && Ptb N p)) := ⟨rfl, rfl⟩
theorem BestR.of : BestR N arcs w x p (decide (askd N arcs (Wtb arcs w && Amtb arcs x && Ptb N p) = 0) && (kept 1000 arcs x && decide (dot w x = bnd p arcs w))) (askd N arcs (Wtb arcs w && Amtb arcs x && Ptb N p)) := by
  refine ⟨rfl, ?_⟩
  rw [Bool.and_eq_true, Bool.and_eq_true, decide_eq_true_eq, decide_eq_true_eq]
  constructor
  · rintro ⟨h1, h2, h3⟩
    obtain ⟨hV, hp⟩ := askd_zero.1 h1
    rw [Bool.and_eq_true, Bool.and_eq_true] at hp
    exact ⟨h1, (kept_iff hV (amtb.1 hp.1.2).len).1 h2, h3⟩
  · rintro ⟨h1, h2, h3⟩
    exact ⟨h1, (kept_iff (askd_zero.1 h1).1 h2.bds.1).2 h2, h3⟩
theorem ChkOR.of {A : Int} {ns : List Int} : ChkOR N arcs A ns (decide (chk N arcs = 0) && hind N arcs A ns) (chk N arcs) := ⟨rfl, rfl⟩

theorem GrR.ok {n e : Int} {y q : List Int} (h : GrR N arcs w n y q e) (hV : Valid N arcs) (hw : Wts arcs w) (hx : Circ arcs x) : e = 0 ∧ dot w x ≤ n ∧ ∃ z, Circ arcs z ∧ n = dot w z := by
  cases h with
  | bad h => exact absurd (askw_zero.2 ⟨hV, hw⟩) h
  | no _ _ h => exact (h.no hV hx).elim
  | yes _ _ h => exact ⟨rfl, h.max hV hw.len hx, _, h.circ, rfl⟩
theorem dot_neg : ∀ (w x : List Int), dot (w.map (- ·)) x = -(dot w x) := by
  intro w
  induction w with
  | nil => intro x; simp [dot]
  | cons a w ih =>
    intro x
    cases x with
    | nil => simp [dot]
    | cons b x => simp only [List.map_cons, dot, ih, Int.neg_mul]; omega

/-- The law of proofs. -/
theorem proves {k best : Bool} {e s f b h i n j m kk : Int} {y q y' q' : List Int} (h1 : KeptR N arcs x k e) (h2 : SumR N arcs w x s f) (h3 : BoundR N arcs w p b h) (h4 : BestR N arcs w x p best i) (h5 : GrR N arcs w n y q j)
    (h6 : GrR N arcs (w.map (- ·)) (-m) y' q' kk) (hf : f = 0) (hk : k = true) :
    j = 0 ∧ kk = 0 ∧ s ≤ n ∧ m ≤ s ∧ h = i ∧ (h = 0 → s ≤ b ∧ n ≤ b ∧ (best = true ↔ s = b)) ∧ (best = true → s = n) := by
  obtain ⟨hV, hc⟩ := h1.2.1 hk
  obtain ⟨f1, s1⟩ := h2
  rw [hf, if_pos rfl] at s1
  rw [hf] at f1
  have hwx := (askd_zero.1 f1.symm).2
  rw [Bool.and_eq_true] at hwx
  have hw := wtb.1 hwx.1
  obtain ⟨j1, j2, z, j3, j4⟩ := h5.ok hV hw hc
  obtain ⟨k1, k2, _⟩ := h6.ok hV (neg_wts hw) hc
  rw [dot_neg] at k2
  have hhi : h = i := by
    rw [h3.1, h4.1, hwx.1, hwx.2]
    rfl
  refine ⟨j1, k1, by omega, by omega, hhi, fun h0 => ?_, fun hb => ?_⟩
  · obtain ⟨_, b1⟩ := h3
    rw [h0, if_pos rfl] at b1
    have d1 := dual hV hc hw.len p
    have d2 := dual hV j3 hw.len p
    refine ⟨by omega, by omega, ?_⟩
    rw [h4.2, ← hhi, b1, s1]
    exact ⟨fun h => h.2.2, fun h => ⟨h0, hc, h⟩⟩
  · obtain ⟨_, _, b3⟩ := h4.2.1 hb
    have d2 := dual hV j3 hw.len p
    omega
theorem provesT {k : Bool} {e s f b h i n j m kk : Int} {y q y' q' : List Int} (h1 : KeptR N arcs x k e) (h2 : SumR N arcs w x s f) (h3 : BoundR N arcs w p b h) (h4 : BestR N arcs w x p true i) (h5 : GrR N arcs w n y q j)
    (h6 : GrR N arcs (w.map (- ·)) (-m) y' q' kk) (hf : f = 0) (hk : k = true) :
    j = 0 ∧ kk = 0 ∧ s ≤ n ∧ m ≤ s ∧ h = i ∧ (h = 0 → s ≤ b ∧ n ≤ b ∧ s = b) ∧ s = n := by
  obtain ⟨a1, a2, a3, a4, a5, a6, a7⟩ := proves h1 h2 h3 h4 h5 h6 hf hk
  exact ⟨a1, a2, a3, a4, a5, fun h => ⟨(a6 h).1, (a6 h).2.1, (a6 h).2.2.1 rfl⟩, a7 rfl⟩
theorem provesF {k : Bool} {e s f b h i n j m kk : Int} {y q y' q' : List Int} (h1 : KeptR N arcs x k e) (h2 : SumR N arcs w x s f) (h3 : BoundR N arcs w p b h) (h4 : BestR N arcs w x p false i) (h5 : GrR N arcs w n y q j)
    (h6 : GrR N arcs (w.map (- ·)) (-m) y' q' kk) (hf : f = 0) (hk : k = true) :
    j = 0 ∧ kk = 0 ∧ s ≤ n ∧ m ≤ s ∧ h = i ∧ (h = 0 → s ≤ b ∧ n ≤ b ∧ ¬ s = b) := by
  obtain ⟨a1, a2, a3, a4, a5, a6, a7⟩ := proves h1 h2 h3 h4 h5 h6 hf hk
  exact ⟨a1, a2, a3, a4, a5, fun h => ⟨(a6 h).1, (a6 h).2.1, fun e => absurd ((a6 h).2.2.2 e) (by decide)⟩⟩
end

/-! ### memory -/
theorem GrR.same {N : Int} {arcs : List Arc} {w x y p q : List Int} {n m e f : Int} (h1 : GrR N arcs w n x p e) (h2 : GrR N arcs w m y q f) : n = m ∧ e = f := by
  cases h1 with
  | bad g1 =>
    cases h2 with
    | bad => exact ⟨rfl, rfl⟩
    | no hV hw _ => exact absurd (askw_zero.2 ⟨hV, hw⟩) g1
    | yes hV hw _ => exact absurd (askw_zero.2 ⟨hV, hw⟩) g1
  | no hV hw g1 =>
    cases h2 with
    | bad g => exact absurd (askw_zero.2 ⟨hV, hw⟩) g
    | no => exact ⟨rfl, rfl⟩
    | yes _ _ g => exact (g1.no hV g.circ).elim
  | yes hV hw g1 =>
    cases h2 with
    | bad g => exact absurd (askw_zero.2 ⟨hV, hw⟩) g
    | no _ _ g => exact (g.no hV g1.circ).elim
    | yes _ _ g =>
      have := g1.max hV hw.len g.circ
      have := g.max hV hw.len g1.circ
      exact ⟨by omega, rfl⟩
theorem nar_idle {N : Int} {arcs : List Arc} {i : Int} (h : narE N arcs i 0 1000000 1 = 0) : nar arcs i.toNat 0 1000000 1 = arcs := by
  obtain ⟨hV, hi, _⟩ := narE_zero.1 h
  obtain ⟨a, ha⟩ : ∃ a, arcs[i.toNat]? = some a := ⟨_, List.getElem?_eq_getElem (by omega)⟩
  have hok := hV.at ha
  exact (nar00 ha (by omega) (by omega)).symm
theorem GrR.len {N : Int} {arcs : List Arc} {w x p : List Int} {n e : Int} (h : GrR N arcs w n x p e) : x.length ≤ arcs.length ∧ p.length ≤ 1000 := by
  cases h with
  | bad => simp
  | no => simp
  | yes hV _ h => have := h.circ.bds.1; have := h.pts.len; have := hV.max; omega
end Go.Vk.Flow

/- Nets, as plain mathematics, part 10: what the reference does. No program in sight. -/
namespace Go.Vk.Flow
open Go

theorem chk_one {N : Int} {arcs : List Arc} {i : Nat} {a : Arc} (h1 : ¬ 1000 < N) (h2 : ¬ 4000 < arcs.length) (ha : arcs[i]? = some a) (h : okArc N a = false) : chk N arcs = 1 := by
  rw [chk, if_neg (by omega), if_pos]
  refine .inr (List.any_eq_true.2 ⟨a, List.mem_of_getElem? ha, by rw [h]; rfl⟩)
theorem chk_ok {N : Int} {arcs : List Arc} (h1 : ¬ 1000 < N) (h2 : ¬ 4000 < arcs.length) (h3 : ¬ N < 1) (h : ∀ a ∈ arcs, okArc N a = true) : chk N arcs = 0 := chk_zero.2 ⟨by omega, by omega, by omega, h⟩
theorem ok_step {N : Int} {arcs : List Arc} {i : Nat} {a : Arc} (h : ∀ b ∈ arcs.take i, okArc N b = true) (ha : arcs[i]? = some a) (hok : okArc N a = true) : ∀ b ∈ arcs.take (i + 1), okArc N b = true := by
  intro b hb
  rw [List.take_add_one, ha] at hb
  rcases List.mem_append.1 hb with h1 | h1
  · exact h b h1
  · simp at h1; subst h1; exact hok

/-- A list of so many numbers. -/
def tabL (n : Nat) (f : Nat → Int) : List Int := (List.range n).map f
theorem tabL_length (n : Nat) (f : Nat → Int) : (tabL n f).length = n := by simp [tabL]
theorem tabL_get {n i : Nat} {f : Nat → Int} (h : i < n) : (tabL n f)[i]? = some (f i) := by simp [tabL, h]
theorem tabL_set {n i : Nat} {f : Nat → Int} {x : Int} : (tabL n f).set i x = tabL n (upf f i x) := by
  apply List.ext_getElem?
  intro j
  simp only [tabL, List.getElem?_set, List.getElem?_map, List.length_map, List.length_range]
  by_cases hj : j < n
  · by_cases e : i = j
    · subst e; simp [hj, upf]
    · simp [e, hj, upf, Ne.symm e]
  · by_cases e : i = j
    · subst e; simp [hj]
    · simp [e, hj]
theorem tabL_zero (n : Nat) : tabL n (fun _ => 0) = List.replicate n 0 := by simp [tabL, List.map_const']
theorem ex_step2 {as : List Arc} {ys : List Int} {i : Nat} {a : Arc} {y : Int} (ha : as[i]? = some a) (hy : ys[i]? = some y) (hd : 0 ≤ a.dst) (hs : 0 ≤ a.src) {f : Nat → Int} (hf : f = ex (as.take i) (ys.take i)) :
    upf (upf f a.src.toNat (f a.src.toNat - y)) a.dst.toNat (upf f a.src.toNat (f a.src.toNat - y) a.dst.toNat + y) = ex (as.take (i + 1)) (ys.take (i + 1)) := by
  rw [← ex_step ha hy hd hs hf]
  funext v
  simp only [upf]
  by_cases c1 : v = a.dst.toNat <;> by_cases c2 : v = a.src.toNat
  · have c3 : a.src.toNat = a.dst.toNat := by omega
    simp only [c1, c3, if_true]; omega
  · have c3 : a.dst.toNat ≠ a.src.toNat := by omega
    simp only [c1, c3, if_true, if_false]
  · have c3 : a.src.toNat ≠ a.dst.toNat := by omega
    simp only [c2, c3, if_true, if_false]
  · simp only [c1, c2, if_false]
theorem row_step {l : List Int} {a b : Int} {i : Nat} {x : Int} (h : ∀ z ∈ l.take i, a ≤ z ∧ z ≤ b) (hx : l[i]? = some x) (hok : a ≤ x ∧ x ≤ b) : ∀ z ∈ l.take (i + 1), a ≤ z ∧ z ≤ b := by
  intro z hz
  rw [List.take_add_one, hx] at hz
  rcases List.mem_append.1 hz with h1 | h1
  · exact h z h1
  · simp at h1; subst h1; exact hok
theorem row_no {l : List Int} {n a b : Int} {i : Nat} {x : Int} (hx : l[i]? = some x) (hok : ¬ (a ≤ x ∧ x ≤ b)) : row l n a b = false := by
  cases h : row l n a b with
  | false => rfl
  | true => exact absurd ((row_iff.1 h).2 x (List.mem_of_getElem? hx)) hok
theorem kept_tab {N : Int} {arcs : List Arc} {x : List Int} (hV : Valid N arcs) (h1 : within arcs x = true) (h2 : ∀ v : Nat, v < N.toNat → ex arcs x v = 0) : kept 1000 arcs x = true := by
  rw [kept_big (N := N) hV.ok hV.max, kept, h1, Bool.true_and, List.all_eq_true]
  intro v hv
  rw [h2 v (List.mem_range.1 hv)]; rfl
theorem kept_bad {N : Int} {arcs : List Arc} {x : List Int} {v : Nat} (hV : Valid N arcs) (hv : v < N.toNat) (h : ¬ ex arcs x v = 0) : kept 1000 arcs x = false := by
  rw [kept_big (N := N) hV.ok hV.max, kept]
  have : ((List.range N.toNat).all fun v => ex arcs x v == 0) = false := by
    rw [List.all_eq_false]
    exact ⟨v, List.mem_range.2 hv, by simpa using h⟩
  rw [this, Bool.and_false]

/-! ### nodes in a list -/
/-- The node before place i, or -1. -/
def lastOf (ns : List Int) (i : Nat) : Int := if i = 0 then -1 else nth ns (i - 1)
theorem asc_step {N : Int} {ns : List Int} {i : Nat} {v : Int} (h : asc N (-1) ns = asc N (lastOf ns i) (ns.drop i)) (hv : ns[i]? = some v) (hok : lastOf ns i + 1 ≤ v ∧ v ≤ N - 1) : asc N (-1) ns = asc N (lastOf ns (i + 1)) (ns.drop (i + 1)) := by
  obtain ⟨hi, rfl⟩ := List.getElem?_eq_some_iff.1 hv
  rw [h, List.drop_eq_getElem_cons hi, asc, decide_eq_true hok, Bool.true_and]
  have : lastOf ns (i + 1) = ns[i] := by rw [lastOf, if_neg (by omega)]; exact nth_of (by simp [hi])
  rw [this]
theorem asc_no {N : Int} {ns : List Int} {i : Nat} {v : Int} (h : asc N (-1) ns = asc N (lastOf ns i) (ns.drop i)) (hv : ns[i]? = some v) (hok : ¬ (lastOf ns i + 1 ≤ v ∧ v ≤ N - 1)) : asc N (-1) ns = false := by
  obtain ⟨hi, rfl⟩ := List.getElem?_eq_some_iff.1 hv
  rw [h, List.drop_eq_getElem_cons hi, asc, decide_eq_false hok, Bool.false_and]
theorem lastOf_succ {ns : List Int} {i : Nat} {v : Int} (h : 0 < i) (hv : ns[i - 1]? = some v) : lastOf ns i = v := by rw [lastOf, if_neg (by omega)]; exact nth_of hv
theorem lastOf_zero {ns : List Int} {i : Nat} (h : ¬ 0 < i) : lastOf ns i = -1 := by rw [lastOf, if_pos (by omega)]
theorem lastOf_next {ns : List Int} {i : Nat} {v : Int} (hv : ns[i]? = some v) : lastOf ns (i + 1) = v := by rw [lastOf, if_neg (by omega)]; exact nth_of (by simpa using hv)
theorem csum_bd_arcs {N : Int} {arcs : List Arc} (hV : Valid N arcs) (ns : List Int) (i : Nat) : -4000000000 ≤ csum (cutl ns (arcs.take i)) ∧ csum (cutl ns (arcs.take i)) ≤ 4000000000 := by
  have h1 := cutl_len ns (arcs.take i)
  have h2 := csum_bd (cutl ns (arcs.take i)) (fun x hx => by
    obtain ⟨a, o⟩ := x
    have h3 := okArc_iff.1 (hV.ok a (List.mem_of_mem_take (mem_cutl hx)))
    cases o <;> simp only [csum1] <;> omega) _ (Nat.le_refl _)
  rw [List.take_length] at h2
  have h4 : (arcs.take i).length ≤ 4000 := by have := hV.len; rw [List.length_take]; omega
  omega
section
variable {ns : List Int} {arcs : List Arc} {i : Nat} {a : Arc}
theorem csum_out (ha : arcs[i]? = some a) (hs : decide (a.src ∈ ns) = true) (hd : decide (a.dst ∈ ns) = false) : csum (cutl ns (arcs.take (i + 1))) = csum (cutl ns (arcs.take i)) + a.lo := by
  rw [cutl_take ha, cut1, hs, hd, if_pos (by decide), csum_snoc]; rfl
theorem csum_in (ha : arcs[i]? = some a) (hs : decide (a.src ∈ ns) = false) (hd : decide (a.dst ∈ ns) = true) : csum (cutl ns (arcs.take (i + 1))) = csum (cutl ns (arcs.take i)) - a.hi := by
  rw [cutl_take ha, cut1, hs, hd, if_pos (by decide), csum_snoc]; rfl
theorem csum_same (ha : arcs[i]? = some a) {b c : Bool} (hs : decide (a.src ∈ ns) = b) (hd : decide (a.dst ∈ ns) = c) (e : b = c) : csum (cutl ns (arcs.take (i + 1))) = csum (cutl ns (arcs.take i)) := by
  rw [cutl_take ha, cut1, hs, hd, e, if_neg (by simp), List.append_nil]
end
theorem hind_asc {N : Int} {arcs : List Arc} {A : Int} {ns : List Int} (hA : ¬ 0 ≤ A) (h : asc N (-1) ns = false) : hind N arcs A ns = false := by
  cases hh : hind N arcs A ns with
  | false => rfl
  | true => obtain ⟨_, h1, _⟩ := hind_cut hh hA; rw [h] at h1; cases h1
theorem hind_low {N : Int} {arcs : List Arc} {A : Int} {ns : List Int} (hA : ¬ 0 ≤ A) (h : ¬ A = -1) : hind N arcs A ns = false := by
  cases hh : hind N arcs A ns with
  | false => rfl
  | true => exact absurd (hind_cut hh hA).1 h
end Go.Vk.Flow

/- Nets, as plain mathematics, part 11: the laws, continued. No program in sight. -/
namespace Go.Vk.Flow
open Go
section
variable {N : Int} {arcs : List Arc}

/-! ### either -/
theorem eitherT {y ns : List Int} {e A f : Int} (h1 : SomeR N arcs y e) (h2 : ObsR N arcs A ns true f) : (f = 0 ∧ e = 60 ∧ y.length = 0 ∧ chk N arcs = 0) ∧ Valid N arcs ∧ hind N arcs A ns = true := by
  cases h2 with
  | no hV hh =>
    refine ⟨?_, hV, hh⟩
    cases h1 with
    | bad h => exact absurd (chk_zero.2 hV) h
    | no => exact ⟨rfl, rfl, rfl, chk_zero.2 hV⟩
    | yes _ hc => exact (hind_no hV hh hc).elim
theorem eitherF {y ns : List Int} {e A f : Int} (h1 : SomeR N arcs y e) (h2 : ObsR N arcs A ns false f) : (¬ f = 0 → e = f ∧ f = chk N arcs ∧ y.length = 0) ∧ (f = 0 → e = 0 ∧ A = 0 ∧ ns.length = 0 ∧ chk N arcs = 0) ∧ (f = 0 → Valid N arcs ∧ Circ arcs y) := by
  cases h2 with
  | bad hb =>
    cases h1 with
    | bad h => exact ⟨fun _ => ⟨rfl, rfl, rfl⟩, fun h => absurd h hb, fun h => absurd h hb⟩
    | no hV => exact absurd (chk_zero.2 hV) hb
    | yes hV => exact absurd (chk_zero.2 hV) hb
  | yes hV hc =>
    cases h1 with
    | bad h => exact absurd (chk_zero.2 hV) h
    | no _ h => exact (h.no hV hc).elim
    | yes _ hy => exact ⟨fun h => absurd rfl h, fun _ => ⟨rfl, rfl, rfl, chk_zero.2 hV⟩, fun _ => ⟨hV, hy⟩⟩
theorem KeptR.yes {x : List Int} {k : Bool} {e : Int} (h : KeptR N arcs x k e) (hV : Valid N arcs) (hc : Circ arcs x) : k = true ∧ e = 0 := ⟨h.2.2 ⟨hV, hc⟩, by rw [h.1]; exact askd_zero.2 ⟨hV, amtb.2 (hc.amts hV)⟩⟩
theorem ChkOR.yes {A : Int} {ns : List Int} {k : Bool} {e : Int} (h : ChkOR N arcs A ns k e) (hV : Valid N arcs) (hh : hind N arcs A ns = true) : k = true ∧ e = 0 := by
  have e0 : e = 0 := by rw [h.1]; exact chk_zero.2 hV
  exact ⟨by rw [h.2, hh, decide_eq_true e0]; rfl, e0⟩
theorem ChkOR.hind {A : Int} {ns : List Int} {e : Int} (h : ChkOR N arcs A ns true e) : Flow.hind N arcs A ns = true := by
  have := h.2.symm
  rw [Bool.and_eq_true] at this
  exact this.2

/-! ### greatest and least -/
theorem bestE {wl x y p q : List Int} {n m e f : Int} (h1 : GrR N arcs wl n x p e) (h2 : GrR N arcs (wl.map (- ·)) m y q f) : e = f := by
  cases h1 with
  | bad g1 =>
    cases h2 with
    | bad => exact (askw_neg N arcs wl).symm
    | no hV hw _ => exact absurd (askw_zero.2 ⟨hV, by have := neg_wts hw; rwa [List.map_map, show ((- ·) : Int → Int) ∘ (- ·) = id from funext fun x => Int.neg_neg x, List.map_id] at this⟩) g1
    | yes hV hw _ => exact absurd (askw_zero.2 ⟨hV, by have := neg_wts hw; rwa [List.map_map, show ((- ·) : Int → Int) ∘ (- ·) = id from funext fun x => Int.neg_neg x, List.map_id] at this⟩) g1
  | no hV hw g1 =>
    cases h2 with
    | bad g => exact absurd (askw_zero.2 ⟨hV, neg_wts hw⟩) g
    | no => rfl
    | yes _ _ g => exact (g1.no hV g.circ).elim
  | yes hV hw g1 =>
    cases h2 with
    | bad g => exact absurd (askw_zero.2 ⟨hV, neg_wts hw⟩) g
    | no _ _ g => exact (g.no hV g1.circ).elim
    | yes => rfl
/-- Why there is no greatest sum. -/
theorem bestNo {wl x y p q z : List Int} {n m e f s : Int} (h1 : GrR N arcs wl n x p e) (h2 : GrR N arcs (wl.map (- ·)) (-m) y q f) (h3 : SomeR N arcs z s) (he : ¬ e = 0) :
    (n = 0 ∧ m = 0 ∧ x.length = 0 ∧ y.length = 0 ∧ p.length = 0 ∧ q.length = 0) ∧ ((¬ chk N arcs = 0 ∧ e = chk N arcs) ∨ (chk N arcs = 0 ∧ e = 1 ∧ row wl arcs.length (-1000) 1000 = false) ∨ (chk N arcs = 0 ∧ e = 60 ∧ s = 60 ∧ row wl arcs.length (-1000) 1000 = true)) := by
  have hef := bestE h1 h2
  have hz : m = 0 ∧ y.length = 0 ∧ q.length = 0 := by
    generalize hm : -m = m' at h2
    cases h2 with
    | bad => exact ⟨by omega, rfl, rfl⟩
    | no => exact ⟨by omega, rfl, rfl⟩
    | yes => exact absurd hef he
  cases h1 with
  | bad g1 =>
    refine ⟨⟨rfl, hz.1, rfl, hz.2.1, rfl, hz.2.2⟩, ?_⟩
    by_cases hc : chk N arcs = 0
    · refine .inr (.inl ?_)
      have hV := chk_zero.1 hc
      have hr : row wl arcs.length (-1000) 1000 = false := by
        cases hr : row wl arcs.length (-1000) 1000 with
        | false => rfl
        | true => exact absurd (askw_zero.2 ⟨hV, row_wts.1 hr⟩) g1
      exact ⟨hc, by rw [askw, askd_valid hV, hr]; rfl, hr⟩
    · exact .inl ⟨hc, by rw [askw, askd, if_pos hc]⟩
  | no hV hw g1 =>
    refine ⟨⟨rfl, hz.1, rfl, hz.2.1, rfl, hz.2.2⟩, .inr (.inr ⟨chk_zero.2 hV, rfl, ?_, row_wts.2 hw⟩)⟩
    cases h3 with
    | bad h => exact absurd (chk_zero.2 hV) h
    | no => rfl
    | yes _ hc => exact (g1.no hV hc).elim
  | yes => exact absurd rfl he
theorem GrR.opt {wl x p : List Int} {n e : Int} (h : GrR N arcs wl n x p e) (he : e = 0) : Valid N arcs ∧ Wts arcs wl ∧ Opt N arcs wl x p ∧ n = dot wl x := by
  cases h with
  | bad h => exact absurd he h
  | no => exact absurd he (by decide)
  | yes hV hw ho => exact ⟨hV, hw, ho, rfl⟩
theorem BestR.yes {wl x p : List Int} {k : Bool} {e : Int} (h : BestR N arcs wl x p k e) (hV : Valid N arcs) (hw : Wts arcs wl) (ho : Opt N arcs wl x p) : k = true ∧ e = 0 := by
  have e0 : e = 0 := by
    rw [h.1, askd_zero]
    refine ⟨hV, ?_⟩
    rw [Bool.and_eq_true, Bool.and_eq_true]
    exact ⟨⟨wtb.2 hw, amtb.2 (ho.circ.amts hV)⟩, ptb.2 ho.pts⟩
  exact ⟨h.2.2 ⟨e0, ho.circ, ho.eq hV hw.len⟩, e0⟩
theorem SumR.yes {wl x : List Int} {s e : Int} (h : SumR N arcs wl x s e) (hV : Valid N arcs) (hw : Wts arcs wl) (hc : Circ arcs x) : s = dot wl x ∧ e = 0 := by
  have e0 : e = 0 := by
    rw [h.1, askd_zero, Bool.and_eq_true]
    exact ⟨hV, wtb.2 hw, amtb.2 (hc.amts hV)⟩
  exact ⟨by rw [h.2, if_pos e0], e0⟩
end
theorem asc_len {N : Int} : ∀ (l : List Int) (last : Int), asc N last l = true → last < N → (l.length : Int) ≤ N - 1 - last := by
  intro l
  induction l with
  | nil => intro last _ h; simp; omega
  | cons a l ih =>
    intro last h hl
    simp only [asc, Bool.and_eq_true, decide_eq_true_eq] at h
    have := ih a h.2 (by omega)
    simp only [List.length_cons]; omega
theorem hind_len {N : Int} {arcs : List Arc} {A : Int} {ns : List Int} (hV : Valid N arcs) (h : hind N arcs A ns = true) : ns.length ≤ 1000 := by
  by_cases hA : 0 ≤ A
  · rw [hind, if_pos (by omega)] at h
    simp only [Bool.and_eq_true, decide_eq_true_eq] at h
    omega
  · obtain ⟨_, h1, _⟩ := hind_cut h hA
    have := asc_len ns (-1) h1 (by have := hV.pos; omega)
    have := hV.max
    omega
end Go.Vk.Flow

/- Nets, as plain mathematics, part 12: the laws, continued. No program in sight. -/
namespace Go.Vk.Flow
open Go
section
variable {N : Int} {arcs : List Arc}

/-! ### sharp ranges -/
theorem fix_nrw {i : Nat} {k : Int} (hk : inb2 arcs i k = true) : Nrw arcs (fix arcs i k) := by
  unfold fix
  unfold inb2 at hk
  cases ha : arcs[i]? with
  | none => exact ⟨rfl, fun j x y hx hy => by simp only at hy; rw [hx] at hy; cases hy; exact ⟨⟨rfl, rfl⟩, Int.le_refl _, Int.le_refl _⟩⟩
  | some a =>
    rw [ha] at hk
    have hk : a.lo ≤ k ∧ k ≤ a.hi := by simpa using hk
    refine ⟨List.length_set .., fun j x y hx hy => ?_⟩
    simp only at hy
    rw [List.getElem?_set] at hy
    split at hy
    · rename_i e
      subst e
      rw [ha] at hx
      cases hx
      split at hy
      · cases hy; exact ⟨⟨rfl, rfl⟩, hk.1, hk.2⟩
      · cases hy
    · rw [hx] at hy; cases hy; exact ⟨⟨rfl, rfl⟩, Int.le_refl _, Int.le_refl _⟩
theorem fix_at {i : Nat} {k : Int} {x : List Int} (hi : i < arcs.length) (hc : Circ (fix arcs i k) x) : x[i]? = some k := by
  obtain ⟨a, ha⟩ : ∃ a, arcs[i]? = some a := ⟨_, List.getElem?_eq_getElem hi⟩
  have hf : (fix arcs i k)[i]? = some ⟨a.src, a.dst, k, k, a.loBy, a.hiBy⟩ := by rw [fix, ha]; exact set_get ha
  obtain ⟨y, hy⟩ : ∃ y, x[i]? = some y := ⟨_, List.getElem?_eq_getElem (by rw [hc.bds.1]; exact (List.getElem?_eq_some_iff.1 hf).1)⟩
  have h1 := hc.bds.2 i _ y hf hy
  simp only at h1
  have : y = k := by omega
  rw [hy, this]
theorem fix_circ {i : Nat} {y : Int} {x : List Int} (hc : Circ arcs x) (hy : x[i]? = some y) : Circ (fix arcs i y) x := by
  have hi : i < arcs.length := by rw [← hc.bds.1]; exact (List.getElem?_eq_some_iff.1 hy).1
  obtain ⟨a, ha⟩ : ∃ a, arcs[i]? = some a := ⟨_, List.getElem?_eq_getElem hi⟩
  have hb := hc.bds.2 i a y ha hy
  have hk : inb2 arcs i y = true := by rw [inb2, ha]; exact decide_eq_true hb
  have hn := fix_nrw hk
  refine ⟨⟨hc.bds.1.trans hn.1.symm, fun j p z hp hz => ?_⟩, fun v => by rw [ex_ends _ _ x hn.ends v]; exact hc.zero v⟩
  by_cases e : j = i
  · subst e
    have : (fix arcs j y)[j]? = some ⟨a.src, a.dst, y, y, a.loBy, a.hiBy⟩ := by rw [fix, ha]; exact set_get ha
    rw [this] at hp
    cases hp
    rw [hy] at hz
    cases hz
    simp
  · have : (fix arcs i y)[j]? = arcs[j]? := by rw [fix, ha]; exact List.getElem?_set_ne (fun h => e h.symm)
    rw [this] at hp
    exact hc.bds.2 j p z hp hz
theorem csum_fix (ns : List Int) {i : Nat} (hi : i < arcs.length) : ∃ c s : Int, (s = 1 ∨ s = -1 ∨ s = 0) ∧ ∀ z, csum (cutl ns (fix arcs i z)) = c + s * z := by
  obtain ⟨a, ha⟩ : ∃ a, arcs[i]? = some a := ⟨_, List.getElem?_eq_getElem hi⟩
  have hs : ∀ z, cutl ns (fix arcs i z) = cutl ns (arcs.take i) ++ (cut1 ns ⟨a.src, a.dst, z, z, a.loBy, a.hiBy⟩ ++ cutl ns (arcs.drop (i + 1))) := by
    intro z
    have : fix arcs i z = arcs.take i ++ ⟨a.src, a.dst, z, z, a.loBy, a.hiBy⟩ :: arcs.drop (i + 1) := by
      rw [fix, ha]
      exact List.set_eq_take_append_cons_drop.trans (if_pos hi)
    rw [this]
    simp [cutl]
  by_cases h1 : decide (a.src ∈ ns) ≠ decide (a.dst ∈ ns)
  · by_cases h2 : a.src ∈ ns
    · refine ⟨csum (cutl ns (arcs.take i)) + csum (cutl ns (arcs.drop (i + 1))), 1, .inl rfl, fun z => ?_⟩
      rw [hs, csum_append, csum_append]
      have : cut1 ns ⟨a.src, a.dst, z, z, a.loBy, a.hiBy⟩ = [(⟨a.src, a.dst, z, z, a.loBy, a.hiBy⟩, true)] := by rw [cut1, if_pos h1, decide_eq_true h2]
      rw [this]
      simp [csum, csum1]; omega
    · refine ⟨csum (cutl ns (arcs.take i)) + csum (cutl ns (arcs.drop (i + 1))), -1, .inr (.inl rfl), fun z => ?_⟩
      rw [hs, csum_append, csum_append]
      have : cut1 ns ⟨a.src, a.dst, z, z, a.loBy, a.hiBy⟩ = [(⟨a.src, a.dst, z, z, a.loBy, a.hiBy⟩, false)] := by rw [cut1, if_pos h1, decide_eq_false h2]
      rw [this]
      simp [csum, csum1]; omega
  · refine ⟨csum (cutl ns (arcs.take i)) + csum (cutl ns (arcs.drop (i + 1))), 0, .inr (.inr rfl), fun z => ?_⟩
    rw [hs, csum_append, csum_append]
    have : cut1 ns ⟨a.src, a.dst, z, z, a.loBy, a.hiBy⟩ = [] := by rw [cut1, if_neg h1]
    rw [this]
    simp [csum]
/-- Between the amounts of two circulations there is no obstacle. -/
theorem between {i : Nat} {k : Int} {x y : List Int} {u v : Int} (hV : Valid N arcs) (hx : Circ arcs x) (hy : Circ arcs y) (hxi : x[i]? = some u) (hyi : y[i]? = some v) (h1 : u ≤ k) (h2 : k ≤ v) (hn : NoC N (fix arcs i k)) : False := by
  have hi : i < arcs.length := by rw [← hx.bds.1]; exact (List.getElem?_eq_some_iff.1 hxi).1
  obtain ⟨a, ha⟩ : ∃ a, arcs[i]? = some a := ⟨_, List.getElem?_eq_getElem hi⟩
  obtain ⟨A, ns, hh⟩ := hn
  have cx := fix_circ hx hxi
  have cy := fix_circ hy hyi
  have bx := hx.bds.2 i a u ha hxi
  have by_ := hy.bds.2 i a v ha hyi
  have kx : inb2 arcs i u = true := by rw [inb2, ha]; exact decide_eq_true bx
  have ky : inb2 arcs i v = true := by rw [inb2, ha]; exact decide_eq_true by_
  by_cases hA : 0 ≤ A
  · obtain ⟨b, hb, hlt⟩ := hind_bad hh hA
    by_cases e : A.toNat = i
    · subst e
      rw [fix, ha] at hb
      have := set_get (b := (⟨a.src, a.dst, k, k, a.loBy, a.hiBy⟩ : Arc)) ha
      rw [this] at hb
      cases hb
      simp at hlt
    · have : (fix arcs i k)[A.toNat]? = arcs[A.toNat]? := by rw [fix, ha]; exact List.getElem?_set_ne (fun h => e h.symm)
      rw [this] at hb
      obtain ⟨z, hz⟩ : ∃ z, x[A.toNat]? = some z := ⟨_, List.getElem?_eq_getElem (by rw [hx.bds.1]; exact (List.getElem?_eq_some_iff.1 hb).1)⟩
      have := hx.bds.2 _ b z hb hz
      omega
  · obtain ⟨rfl, hasc, hpos⟩ := hind_cut hh hA
    obtain ⟨c, s, hs, hc⟩ := csum_fix ns hi
    have e1 : csum (cutl ns (fix arcs i u)) ≤ 0 := by
      rcases Int.lt_or_le 0 (csum (cutl ns (fix arcs i u))) with h | h
      · exact (hind_no (A := -1) (fix_valid hV kx) (by rw [hind, if_neg (by omega), hasc, decide_eq_true h]; rfl) cx).elim
      · exact h
    have e2 : csum (cutl ns (fix arcs i v)) ≤ 0 := by
      rcases Int.lt_or_le 0 (csum (cutl ns (fix arcs i v))) with h | h
      · exact (hind_no (A := -1) (fix_valid hV ky) (by rw [hind, if_neg (by omega), hasc, decide_eq_true h]; rfl) cy).elim
      · exact h
    rw [hc] at e1 e2 hpos
    rcases hs with rfl | rfl | rfl <;> omega
theorem unit_neg (n i : Nat) (k : Int) : (unit n i k).map (- ·) = unit n i (-k) := by
  apply List.ext_getElem?
  intro j
  simp only [unit, List.getElem?_map, List.getElem?_set, List.length_replicate, List.getElem?_replicate]
  by_cases e : i = j
  · simp only [e, if_true]
    by_cases h : j < n <;> simp [h]
  · simp only [e, if_false]
    by_cases h : j < n <;> simp [h]
theorem RaR.bd {i lo hi e : Int} (h : RaR N arcs i lo hi e) : 0 ≤ lo ∧ lo ≤ 1000000 ∧ 0 ≤ hi ∧ hi ≤ 1000000 := by
  cases h with
  | bad => omega
  | no => omega
  | yes h0 o1 o2 =>
    obtain ⟨hV, hi0, hi1⟩ := aski_zero.1 h0
    have a1 := (o1.circ.amts hV).bd _ (List.mem_of_getElem? (nth_get (i := i.toNat) (by rw [o1.circ.bds.1]; omega)))
    have a2 := (o2.circ.amts hV).bd _ (List.mem_of_getElem? (nth_get (i := i.toNat) (by rw [o2.circ.bds.1]; omega)))
    omega
theorem sharp1 {i lo hi e k f : Int} {x : List Int} {is : Bool} (h1 : RaR N arcs i lo hi e) (h2 : ThR N arcs i k x is f) (he : ¬ e = 0) : (lo = 0 ∧ hi = 0 ∧ x.length = 0 ∧ (f = e ∨ (e = 60 ∧ f = 0))) ∧ is = false := by
  cases h1 with
  | bad g1 =>
    cases h2 with
    | bad => exact ⟨⟨rfl, rfl, rfl, .inl rfl⟩, rfl⟩
    | out g => exact absurd g g1
    | no g => exact absurd g g1
    | yes g => exact absurd g g1
  | no g1 g2 =>
    cases h2 with
    | bad g => exact absurd g1 g
    | out => exact ⟨⟨rfl, rfl, rfl, .inr ⟨rfl, rfl⟩⟩, rfl⟩
    | no => exact ⟨⟨rfl, rfl, rfl, .inr ⟨rfl, rfl⟩⟩, rfl⟩
    | yes _ hk hc => exact (g2.no (aski_zero.1 g1).1 ((fix_nrw hk).circ hc)).elim
  | yes => exact absurd rfl he
theorem sharp2 {i lo hi e n f : Int} {x p : List Int} (h1 : RaR N arcs i lo hi e) (he : e = 0) (h2 : GrR N arcs (unit arcs.length i.toNat 1) n x p f) : f = 0 ∧ n = hi := by
  cases h1 with
  | bad h => exact absurd he h
  | no => exact absurd he (by decide)
  | yes h0 o1 o2 =>
    obtain ⟨hV, hi0, hi1⟩ := aski_zero.1 h0
    have hl : i.toNat < arcs.length := by omega
    obtain ⟨f0, d1, z, hz, hn⟩ := h2.ok hV (unit_wts (by omega)) o2.circ
    have d2 := o2.max hV (unit_length ..) hz
    rw [o2.unit_eq hl] at d1 d2
    exact ⟨f0, by omega⟩
theorem sharp3 {i lo hi e m f : Int} {x p : List Int} (h1 : RaR N arcs i lo hi e) (he : e = 0) (h2 : GrR N arcs ((unit arcs.length i.toNat 1).map (- ·)) (-m) x p f) : f = 0 ∧ m = lo := by
  rw [unit_neg] at h2
  cases h1 with
  | bad h => exact absurd he h
  | no => exact absurd he (by decide)
  | yes h0 o1 o2 =>
    obtain ⟨hV, hi0, hi1⟩ := aski_zero.1 h0
    have hl : i.toNat < arcs.length := by omega
    obtain ⟨f0, d1, z, hz, hn⟩ := h2.ok hV (unit_wts (by omega)) o1.circ
    have d2 := o1.max hV (unit_length ..) hz
    rw [o1.unit_eq hl] at d1 d2
    exact ⟨f0, by omega⟩
theorem sharp4 {i lo hi e k f : Int} {x : List Int} {is : Bool} (h1 : RaR N arcs i lo hi e) (he : e = 0) (h2 : ThR N arcs i k x is f) :
    f = 0 ∧ (is = true → (lo ≤ k ∧ k ≤ hi) ∧ Circ arcs x ∧ x[i.toNat]? = some k) ∧ (is = false → x.length = 0 ∧ ¬ (lo ≤ k ∧ k ≤ hi)) := by
  cases h1 with
  | bad h => exact absurd he h
  | no => exact absurd he (by decide)
  | yes h0 o1 o2 =>
    obtain ⟨hV, hi0, hi1⟩ := aski_zero.1 h0
    have hl : i.toNat < arcs.length := by omega
    have g1 := nth_get (l := _) (i := i.toNat) (by rw [o1.circ.bds.1]; exact hl)
    have g2 := nth_get (l := _) (i := i.toNat) (by rw [o2.circ.bds.1]; exact hl)
    obtain ⟨a, ha⟩ : ∃ a, arcs[i.toNat]? = some a := ⟨_, List.getElem?_eq_getElem hl⟩
    have b1 := o1.circ.bds.2 _ a _ ha g1
    have b2 := o2.circ.bds.2 _ a _ ha g2
    cases h2 with
    | bad h => exact absurd h0 h
    | out _ hk =>
      refine ⟨rfl, fun h => (by cases h), fun _ => ⟨rfl, ?_⟩⟩
      rw [inb2, ha] at hk
      have hk := of_decide_eq_false hk
      omega
    | no _ hk hn => exact ⟨rfl, fun h => (by cases h), fun _ => ⟨rfl, fun hb => between hV o1.circ o2.circ g1 g2 hb.1 hb.2 hn⟩⟩
    | yes _ hk hc =>
      have hx := (fix_nrw hk).circ hc
      have hxi := fix_at hl hc
      refine ⟨rfl, fun _ => ⟨?_, hx, hxi⟩, fun h => (by cases h)⟩
      have m1 := o1.max hV (unit_length ..) hx
      have m2 := o2.max hV (unit_length ..) hx
      rw [o1.unit_eq hl, dot_unit _ _ _ hl hxi] at m1
      rw [o2.unit_eq hl, dot_unit _ _ _ hl hxi] at m2
      omega

/-! ### lifted records -/
theorem wot_ends1 (r : Int) (a : Arc) : (wot1 r a).src = a.src ∧ (wot1 r a).dst = a.dst := by
  unfold wot1 wotHi wotLo
  split <;> split <;> exact ⟨rfl, rfl⟩
theorem wot_wide1 {r : Int} {a : Arc} (hok : okArc N a = true) : (wot1 r a).lo ≤ a.lo ∧ a.hi ≤ (wot1 r a).hi ∧ okArc N (wot1 r a) = true := by
  rw [okArc_iff] at hok ⊢
  unfold wot1 wotHi wotLo
  split <;> rename_i h1 <;> split <;> rename_i h2 <;> simp at * <;> omega
theorem wot_get {r : Int} {i : Nat} {a : Arc} (h : arcs[i]? = some a) : (wot arcs r)[i]? = some (wot1 r a) := by simp [wot, h]
theorem wot_valid {r : Int} (hV : Valid N arcs) : Valid N (wot arcs r) := by
  refine ⟨hV.pos, hV.max, by simpa [wot] using hV.len, fun b hb => ?_⟩
  obtain ⟨a, ha, rfl⟩ := List.mem_map.1 hb
  exact (wot_wide1 (hV.ok a ha)).2.2
theorem wot_nrw {r : Int} (hV : Valid N arcs) : Nrw (wot arcs r) arcs := by
  refine ⟨by simp [wot], fun i x y hx hy => ?_⟩
  have := wot_get (r := r) hy
  rw [this] at hx
  cases hx
  have h1 := wot_ends1 r y
  have h2 := wot_wide1 (r := r) (hV.ok y (List.mem_of_getElem? hy))
  exact ⟨⟨h1.1.symm, h1.2.symm⟩, h2.1, h2.2.1⟩
theorem wot_lo {r : Int} {a : Arc} (h : 0 < a.lo → a.loBy ≠ r) (h0 : 0 ≤ a.lo) : (wot1 r a).lo = a.lo := by
  unfold wot1 wotHi wotLo
  split <;> split <;> simp <;> (rename_i h1 h2; first | rfl | (have : ¬ 0 < a.lo := fun q => h q (by first | exact h1 | exact h2); omega))
theorem wot_hi {r : Int} {a : Arc} (h : a.hiBy ≠ r) : (wot1 r a).hi = a.hi := by
  by_cases hl : a.loBy = r <;> simp [wot1, wotHi, wotLo, hl, h]
theorem cut_wot {r : Int} (ns : List Int) : ∀ (as : List Arc), (∀ a ∈ as, okArc N a = true) → (∀ x, x ∈ orecs (cutl ns as) → x ≠ r) → csum (cutl ns (as.map (wot1 r))) = csum (cutl ns as) := by
  intro as
  induction as with
  | nil => intro _ _; rfl
  | cons a as ih =>
    intro hok h
    have hc : ∀ (b : Arc) (bs : List Arc), cutl ns (b :: bs) = cut1 ns b ++ cutl ns bs := fun b bs => by simp [cutl]
    rw [List.map_cons, hc, hc, csum_append, csum_append]
    rw [hc] at h
    have ho : ∀ s t : List (Arc × Bool), orecs (s ++ t) = orecs s ++ orecs t := fun s t => by simp [orecs, recs]
    rw [ho] at h
    rw [ih (fun b hb => hok b (List.mem_cons_of_mem _ hb)) fun x hx => h x (List.mem_append_right _ hx)]
    have hoa := okArc_iff.1 (hok a (List.mem_cons_self ..))
    have e := wot_ends1 r a
    have key : csum (cut1 ns (wot1 r a)) = csum (cut1 ns a) := by
      unfold cut1
      rw [e.1, e.2]
      split
      · rename_i h1
        have h2 : ∀ x, x ∈ orecs (cut1 ns a) → x ≠ r := fun x hx => h x (List.mem_append_left _ hx)
        rw [cut1, if_pos h1] at h2
        by_cases hs : a.src ∈ ns
        · rw [decide_eq_true hs] at h2 ⊢
          have h3 : (wot1 r a).lo = a.lo := wot_lo (fun hp => h2 _ (by simp [orecs, recs, rec1, hp])) (by omega)
          simp [csum, csum1, h3]
        · rw [decide_eq_false hs] at h2 ⊢
          have h3 : (wot1 r a).hi = a.hi := wot_hi (h2 _ (by simp [orecs, recs, rec1]))
          simp [csum, csum1, h3]
      · rfl
    rw [key]
theorem lift1 {r A : Int} {ns : List Int} (hV : Valid N arcs) (hr : 1 ≤ r) (hh : hind N arcs A ns = true) (hn : ¬ r ∈ orec arcs A ns) : hind N (wot arcs r) A ns = true := by
  by_cases hA : 0 ≤ A
  · obtain ⟨a, ha, hlt⟩ := hind_bad hh hA
    rw [orec, if_pos hA, ha] at hn
    have h1 : a.loBy ≠ r := fun e => hn (mem_lst.2 ⟨by simp [e], by omega⟩)
    have h2 : a.hiBy ≠ r := fun e => hn (mem_lst.2 ⟨by simp [e], by omega⟩)
    rw [hind, if_pos (by omega), bad] at hh ⊢
    rw [wot_get ha, wot00 h1 h2]
    rw [ha] at hh
    simpa [wot] using hh
  · obtain ⟨rfl, h1, h2⟩ := hind_cut hh hA
    rw [orec, if_neg hA] at hn
    rw [hind, if_neg (by omega), h1, Bool.true_and, wot, cut_wot (N := N) ns arcs hV.ok (fun x hx e => hn (mem_lst.2 ⟨by rw [← e]; exact hx, by omega⟩))]
    exact decide_eq_true h2
theorem bnd_wot {p : List Int} {r : Int} : ∀ (as : List Arc) (ys : List Int), (∀ a ∈ as, okArc N a = true) → (∀ x, x ∈ recs (told p as ys) → x ≠ r) → bnd p (as.map (wot1 r)) ys = bnd p as ys := by
  intro as
  induction as with
  | nil => intro ys _ _; rfl
  | cons a as ih =>
    intro ys hok h
    cases ys with
    | nil => rfl
    | cons y ys =>
      have hoa := okArc_iff.1 (hok a (List.mem_cons_self ..))
      have e := wot_ends1 r a
      have hrs : rst p (wot1 r a) y = rst p a y := by unfold rst; rw [e.1, e.2]
      rw [told] at h
      have hap : ∀ s t : List (Arc × Bool), recs (s ++ t) = recs s ++ recs t := fun s t => by simp [recs]
      rw [hap] at h
      simp only [List.map_cons, bnd]
      rw [ih ys (fun b hb => hok b (List.mem_cons_of_mem _ hb)) fun x hx => h x (List.mem_append_right _ hx)]
      have h2 : ∀ x, x ∈ recs (told1 p a y) → x ≠ r := fun x hx => h x (List.mem_append_left _ hx)
      have key : part p (wot1 r a) y = part p a y := by
        unfold part
        rw [hrs]
        split
        · rename_i hc
          rw [told1_pos hc] at h2
          rw [wot_hi (h2 _ (by simp [recs, rec1]))]
        · split
          · rename_i hc
            rw [told1_neg hc] at h2
            rw [wot_lo (fun hp => h2 _ (by simp [recs, rec1, hp])) (by omega)]
          · rfl
      rw [key]
theorem lift2 {r n m e f b k : Int} {wl x p y q : List Int} (hr : 1 ≤ r) (h1 : GrR N arcs wl n x p e) (he : e = 0) (hn : ¬ r ∈ lst (recs (told p arcs wl))) (h2 : BoundR N (wot arcs r) wl p b k) (h3 : GrR N (wot arcs r) wl m y q f) :
    k = 0 ∧ f = 0 ∧ b = n ∧ m = n := by
  obtain ⟨hV, hw, ho, hno⟩ := h1.opt he
  have hV2 := wot_valid (r := r) hV
  have hl : (wot arcs r).length = arcs.length := by simp [wot]
  have hw2 : Wts (wot arcs r) wl := ⟨hw.len.trans hl.symm, hw.bd⟩
  have hc : Circ (wot arcs r) x := (wot_nrw hV).circ ho.circ
  have hb : bnd p (wot arcs r) wl = bnd p arcs wl := bnd_wot (N := N) arcs wl hV.ok fun z hz e => hn (mem_lst.2 ⟨by rw [← e]; exact hz, by omega⟩)
  have k0 : k = 0 := by rw [h2.1, askd_zero, Bool.and_eq_true]; exact ⟨hV2, wtb.2 hw2, ptb.2 ho.pts⟩
  have hbn : b = n := by rw [h2.2, if_pos k0, hb, hno, ho.eq hV hw.len]
  obtain ⟨f0, d1, z, hz, hm⟩ := h3.ok hV2 hw2 hc
  have d2 := dual hV2 hz hw2.len p
  rw [hb, ← ho.eq hV hw.len] at d2
  exact ⟨k0, f0, hbn, by omega⟩
theorem GrR.arg {wl x p y : List Int} {n e : Int} (h : GrR N arcs wl n x p e) (hV : Valid N arcs) (hc : Circ arcs y) (he : ¬ e = 0) : e = 1 := by
  cases h with
  | bad hb =>
    rw [askw, askd_valid hV]
    have : ¬ row wl arcs.length (-1000) 1000 = true := fun hr => hb (askw_zero.2 ⟨hV, row_wts.1 hr⟩)
    rw [if_neg this]
  | no _ _ h => exact (h.no hV hc).elim
  | yes => exact absurd rfl he
theorem RaR.ask {i lo hi e : Int} (h : RaR N arcs i lo hi e) (he : e = 0) : Valid N arcs ∧ 0 ≤ i ∧ i < arcs.length := by
  cases h with
  | bad h => exact absurd he h
  | no => exact absurd he (by decide)
  | yes h0 => exact aski_zero.1 h0
theorem ObsR.isT {A f : Int} {ns : List Int} (h : ObsR N arcs A ns true f) : f = 0 ∧ hind N arcs A ns = true := by
  cases h with
  | no _ h => exact ⟨rfl, h⟩
theorem ObsR.isF {A f : Int} {ns : List Int} (h : ObsR N arcs A ns false f) (hV : Valid N arcs) : f = 0 ∧ ∃ y, Circ arcs y := by
  cases h with
  | bad h => exact absurd (chk_zero.2 hV) h
  | yes _ h => exact ⟨rfl, _, h⟩
theorem ChkOR.no {A e : Int} {ns : List Int} (h : ChkOR N arcs A ns false e) (hV : Valid N arcs) (hh : Flow.hind N arcs A ns = true) : False := by
  have := (h.yes hV hh).1
  cases this
theorem lst_len (l : List Int) : (lst l).length ≤ l.length := by
  have h1 := Lib.compact_length_le ((l.filter fun x => !decide (x = 0)).mergeSort fun x y => decide (x ≤ y))
  rw [List.length_mergeSort] at h1
  exact Nat.le_trans h1 (List.length_filter_le _ _)
theorem orec_len {A : Int} {ns : List Int} (hV : Valid N arcs) : (orec arcs A ns).length ≤ 8000 := by
  unfold orec
  split
  · split
    · exact Nat.le_trans (lst_len _) (by simp)
    · simp
  · have h1 := lst_len (orecs (cutl ns arcs))
    have h2 := orecs_len (cutl ns arcs)
    have h3 := cutl_len ns arcs
    have h4 := hV.len
    omega
end
end Go.Vk.Flow

/- The proof engine, part 20: structs of integers that are compared. Generic over the program. -/
namespace Go.Vk
open Go

/-- Fields that are integers, one behind the other. -/
inductive IntFields (P : Program) : Nat → List Field → Prop
  | nil (k : Nat) : IntFields P k []
  | cons {k : Nat} {f : Field} {fs : List Field} : f.name ≠ "_" → f.offset = k → P.underlying f.type = some (.int .i64) → (∀ w, (isAgg f.type).run P w = .ok false w) → IntFields P (k + 1) fs → IntFields P k (f :: fs)

/-- Such fields, of one type, as a test. -/
def intFieldsB (t : TypeId) : Nat → List Field → Bool
  | _, [] => true
  | k, f :: fs => f.name != "_" && (f.offset == k && (f.type == t && intFieldsB t (k + 1) fs))
theorem intFields_of {P : Program} {t : TypeId} (hu : P.underlying t = some (.int .i64)) (hA : ∀ w, (isAgg t).run P w = .ok false w) : ∀ (fs : List Field) (k : Nat), intFieldsB t k fs = true → IntFields P k fs := by
  intro fs
  induction fs with
  | nil => intro k _; exact .nil k
  | cons f fs ih =>
    intro k h
    simp only [intFieldsB, Bool.and_eq_true, bne_iff_ne, ne_eq, beq_iff_eq] at h
    obtain ⟨h1, h2, h3, h4⟩ := h
    exact .cons h1 h2 (by rw [h3]; exact hu) (by rw [h3]; exact hA) (ih (k + 1) h4)

section
variable {P : Program} {w : World} {E : Operand → Value} {T T' ty : TypeId} {x y : Operand}

theorem run_eqFields_ints (d : Nat) : ∀ (fs : List Field) (k : Nat) (xs ys : List Int), IntFields P k fs → xs.length = k + fs.length → ys.length = k + fs.length →
    (Op.eqFields (d + 1) (xs.map (Value.int .i64)).toArray (ys.map (Value.int .i64)).toArray fs).run P w = .ok (decide (xs.drop k = ys.drop k)) w := by
  intro fs
  induction fs with
  | nil =>
    intro k xs ys _ hx hy
    simp at hx hy
    simp [Op.eqFields, List.drop_eq_nil_of_le, hx, hy]
  | cons f fs ih =>
    intro k xs ys h hx hy
    obtain _ | ⟨hn, ho, hu, hA, h2⟩ := h
    simp at hx hy
    have p1 : ∀ (zs : List Int) (hz : k < zs.length), (part f.type (zs.map (Value.int .i64)).toArray f.offset).run P w = .ok (.int .i64 zs[k]) w := by
      intro zs hz
      simp only [part, Sem.run_bind, hA, Result.andThen_ok, ho]
      have : ((zs.map (Value.int .i64)).toArray)[k]? = some (.int .i64 zs[k]) := by simp [hz]
      rw [this]
      simp
    have hkx : k < xs.length := by omega
    have hky : k < ys.length := by omega
    have h3 := ih (k + 1) xs ys h2 (by omega) (by omega)
    simp only [Op.eqFields, hn, ne_eq, not_false_eq_true, if_true, Sem.run_bind, p1 xs hkx, p1 ys hky, Result.andThen_ok, run_equalIn_int w d f.type .i64 .i64 _ _ hu]
    rw [List.drop_eq_getElem_cons hkx, List.drop_eq_getElem_cons hky]
    by_cases e : xs[k] = ys[k]
    · simp only [e, beq_self_eq_true, Bool.not_true, Bool.false_eq_true, if_false, h3, List.cons.injEq, true_and]
    · have e2 : (xs[k] == ys[k]) = false := by simp [e]
      have hne : ¬ (xs[k] :: xs.drop (k + 1) = ys[k] :: ys.drop (k + 1)) := fun h => e (List.cons.inj h).1
      rw [decide_eq_false hne]
      simp [e2]

def Arc.ints (a : Arc) : List Int := [a.src, a.dst, a.lo, a.hi, a.loBy, a.hiBy]
theorem Arc.ints_inj {a b : Arc} : a.ints = b.ints ↔ a = b := by
  obtain ⟨a1, a2, a3, a4, a5, a6⟩ := a
  obtain ⟨b1, b2, b3, b4, b5, b6⟩ := b
  simp [Arc.ints]

/-- Are two arcs different? -/
theorem x_neqarc {a b : Arc} (ht : P.underlying T = some (.struct (P.fieldsOf T))) (hp : P.stoodInHeld T = false) (hm : P.eqGuardType P.depth T = false) (hf : IntFields P 0 (P.fieldsOf T).toList) (hl : (P.fieldsOf T).toList.length = 6)
    (hx : E x = .agg a.enc.toArray) (hy : E y = .agg b.enc.toArray) : X P E (.binOp .neq T x y T') ty w (.bool (decide (¬ a = b))) w := by
  refine ⟨nofun, fun _ _ _ _ => ?_⟩
  have h1 := run_eqFields_ints (P := P) (w := w) 9998 (P.fieldsOf T).toList 0 a.ints b.ints hf (by rw [hl]; rfl) (by rw [hl]; rfl)
  have e1 : (a.ints.map (Value.int .i64)).toArray = a.enc.toArray := rfl
  have e2 : (b.ints.map (Value.int .i64)).toArray = b.enc.toArray := rfl
  rw [e1, e2, List.drop_zero, List.drop_zero] at h1
  simp only [execOp, hx, hy, Sem.run_bind, run_eqGuard_agg w .neq T x y _ _ hm, Result.andThen_ok, run_neq_struct, run_equalIn_struct w 9999 T _ _ ht hp, h1, Sem.run_pure]
  congr 2
  rw [← decide_not]
  exact congrArg Value.bool (decide_eq_decide.2 (by rw [Arc.ints_inj]))
end
end Go.Vk
namespace Go.Vk
open Go
section
variable {P : Program} {E : Operand → Value} {w : World} {T ty T' : TypeId} {x y : Operand} {p : Prop} [Decidable p]
/-- Two truths compared, of which one is known. -/
theorem x_beqT (hu : ∀ w, (underlying T).run P w = .ok .bool w) (hx : E x = .bool true) (hy : E y = .bool (decide p)) : X P E (.binOp .eql T x y T') ty w (.bool (decide p)) w := by
  have := x_beq (T' := T') (ty := ty) (w := w) hu hx hy
  rwa [show (true == decide p) = decide p by cases decide p <;> rfl] at this
theorem x_bneT (hu : ∀ w, (underlying T).run P w = .ok .bool w) (hx : E x = .bool true) (hy : E y = .bool (decide p)) : X P E (.binOp .neq T x y T') ty w (.bool (decide (¬ p))) w := by
  have := x_bne (T' := T') (ty := ty) (w := w) hu hx hy
  rwa [show (true != decide p) = decide (¬ p) by rw [decide_not]; cases decide p <;> rfl] at this
theorem x_bneF (hu : ∀ w, (underlying T).run P w = .ok .bool w) (hx : E x = .bool false) (hy : E y = .bool (decide p)) : X P E (.binOp .neq T x y T') ty w (.bool (decide p)) w := by
  have := x_bne (T' := T') (ty := ty) (w := w) hu hx hy
  rwa [show (false != decide p) = decide p by cases decide p <;> rfl] at this
theorem x_beqF (hu : ∀ w, (underlying T).run P w = .ok .bool w) (hx : E x = .bool false) (hy : E y = .bool (decide p)) : X P E (.binOp .eql T x y T') ty w (.bool (decide (¬ p))) w := by
  have := x_beq (T' := T') (ty := ty) (w := w) hu hx hy
  rwa [show (false == decide p) = decide (¬ p) by rw [decide_not]; cases decide p <;> rfl] at this
end
end Go.Vk

/- The proof engine, part 19: from the data of a row to lists, and back. Generic over the program. -/
namespace Go.Vk
open Go Go.ChangeShapes Go.WideShapes Go.RowKit

section
variable {H : Type} {enc : TypeId × Value → H} {P : Program} {W W' : World} {base : Nat} {sp : Nat → Bool} {held : Bool}

/-- A slice reads as a list, whatever its elements are. -/
theorem rd_of {α : Type} (E : Elt α) {T : TypeId} (hu : P.underlying T = some (.slice E.T)) (hc : P.cellsOf E.T = E.sz) (hdec : ∀ fuel cs y, cs.length = E.sz → DataW.trod enc P W base sp held fuel E.T cs = some y → ∃ a, cs = E.enc a)
    {fuel : Nat} {v : Value} {y : DataW H × List MemPlace} (h : DataW.trod enc P W base sp held fuel T [v] = some y) : ∃ l, Rd E W v l ∧ l.length ≤ maxLen := by
  rcases DataW.trod_slice hu h with ⟨hcs, _⟩ | ⟨a, len, cap, elems, rest, n, _, hcs, _, _, hl, hm, hlen, hel, _, _⟩
  · simp at hcs
    subst hcs
    exact ⟨[], ⟨none, 0, rfl, Nat.le_refl _, fun i a h => by simp at h⟩, by simp⟩
  · simp at hcs
    subst hcs
    rw [hc] at hel
    have key : ∀ i, i < len → ∃ a', (∀ j, j < E.sz → W.cell? ((a.add (i * E.sz)).add j) = (E.enc a')[j]?) := by
      intro i hi
      have h1 := hel i hi
      rw [List.getElem?_eq_getElem (by omega)] at h1
      obtain ⟨cs, hcs, hy⟩ := Option.bind_eq_some_iff.1 h1
      obtain ⟨_, h2, h3⟩ := World.cells?_some hcs
      obtain ⟨a', rfl⟩ := hdec _ _ _ h2 hy
      exact ⟨a', h3⟩
    by_cases h0 : len = 0
    · subst h0
      exact ⟨[], ⟨some a, cap, rfl, Nat.zero_le _, fun i a h => by simp at h⟩, by simp⟩
    · have hne : Nonempty α := let ⟨a', _⟩ := key 0 (by omega); ⟨a'⟩
      let f : Nat → α := fun i => if h : i < len then Classical.choose (key i h) else Classical.choice hne
      have hf : ∀ i, i < len → ∀ j, j < E.sz → W.cell? ((a.add (i * E.sz)).add j) = (E.enc (f i))[j]? := by
        intro i hi
        have : f i = Classical.choose (key i hi) := dif_pos hi
        rw [this]
        exact Classical.choose_spec (key i hi)
      obtain ⟨b, o, spot⟩ := a
      have hspot : spot = none := by
        have h1 := hf 0 (by omega) 0 E.pos
        rw [List.getElem?_eq_getElem (by rw [E.len]; exact E.pos)] at h1
        simpa [Addr.add] using World.cell?_spot h1
      subst hspot
      refine ⟨(List.range len).map f, ⟨some ⟨b, o, none⟩, cap, by simp, by simpa using hl, fun i a' ha' => ?_⟩, by simp; omega⟩
      have hi : i < len := by have := (List.getElem?_eq_some_iff.1 ha').1; simpa using this
      have ha2 : f i = a' := by simpa [hi] using ha'
      subst ha2
      refine ⟨b, o, rfl, fun j x hx => ?_⟩
      have hj : j < E.sz := by have := (List.getElem?_eq_some_iff.1 hx).1; rwa [E.len] at this
      have h1 := hf i hi j hj
      rw [hx] at h1
      rw [add_plain, add_plain] at h1
      exact h1

theorem dec_int {t : TypeId} (ht : P.underlying t = some (.int .i64)) (fuel : Nat) (cs : List Value) (y : DataW H × List MemPlace) (_h : cs.length = 1) (hy : DataW.trod enc P W base sp held fuel t cs = some y) : ∃ a, cs = (intE t).enc a := by
  obtain ⟨n, rfl, _⟩ := DataW.trod_int ht hy
  exact ⟨n, rfl⟩

/-- Six numbers. -/
theorem dec_arc {t e : TypeId} {fs : Array Field} (ht : P.underlying t = some (.struct fs)) (he : P.underlying e = some (.int .i64)) (hc : P.cellsOf e = 1)
    (h0 : ∀ i, i < 6 → ∃ f, fs[i]? = some f ∧ f.type = e ∧ f.offset = i) (hn : fs.size = 6)
    (fuel : Nat) (cs : List Value) (y : DataW H × List MemPlace) (hl : cs.length = 6) (hy : DataW.trod enc P W base sp held fuel t cs = some y) : ∃ a, cs = Arc.enc a := by
  obtain ⟨xs, n, _, _, _, hxs, hf⟩ := DataW.trod_struct ht hy
  have key : ∀ i, i < 6 → ∃ z : Int, (cs.drop i).take 1 = [.int .i64 z] := by
    intro i hi
    obtain ⟨f, hfi, hte, hto⟩ := h0 i hi
    have h1 := hf i f hfi
    rw [hte, hto, hc, List.getElem?_eq_getElem (by omega)] at h1
    obtain ⟨z, hz, _⟩ := DataW.trod_int he h1
    exact ⟨z, hz⟩
  match cs, hl with
  | [c0, c1, c2, c3, c4, c5], _ =>
    obtain ⟨z0, e0⟩ := key 0 (by decide)
    obtain ⟨z1, e1⟩ := key 1 (by decide)
    obtain ⟨z2, e2⟩ := key 2 (by decide)
    obtain ⟨z3, e3⟩ := key 3 (by decide)
    obtain ⟨z4, e4⟩ := key 4 (by decide)
    obtain ⟨z5, e5⟩ := key 5 (by decide)
    simp at e0 e1 e2 e3 e4 e5
    subst e0; subst e1; subst e2; subst e3; subst e4; subst e5
    exact ⟨⟨z0, z1, z2, z3, z4, z5⟩, rfl⟩

theorem below_of (h : Le W W') : Below W.heap.size W W' := ⟨h.os, h.tape, h.output, h.size, fun k hk => h.block k hk id⟩

theorem trodAll_below (hl : laidOutB P = true) (hb : Below W.heap.size W W') : ∀ {ts : List TypeId} {vs : List Value} {ds : List (DataW H)} {ps : List MemPlace}, (∀ t ∈ ts, P.readableRec t = true ∧ t < P.types.size) →
    DataW.TrodAll enc P W 0 (fun _ => true) true ts vs ds ps → (∀ x ∈ ps, x.block < W.heap.size) → DataW.TrodAll enc P W' 0 (fun b => decide (b < W.heap.size)) true ts vs ds ps
  | [], [], [], _, _, h, _ => h
  | _ :: _, _ :: _, _ :: _, _, hr, ⟨p, q, h1, h2, e⟩, hs => ⟨p, q, Below.trod hl (hr _ (List.mem_cons_self ..)).1 (hr _ (List.mem_cons_self ..)).2 h1 hb (fun x hx => hs x (by rw [e]; exact List.mem_append_left _ hx)),
      trodAll_below hl hb (fun t ht => hr t (List.mem_cons_of_mem _ ht)) h2 (fun x hx => hs x (by rw [e]; exact List.mem_append_right _ hx)), e⟩

/-- What a law leaves: it said true; its arguments read as they did. -/
theorem post_law {f : Func} {s : ChangeSpec} {apart fresh handsOn : Bool} {args : Array Value} {ds gs : List (DataW H)} {before : List MemPlace} {TB : TypeId}
    (hW : DataW.Whole enc P f.params.toList s.vars apart W args.toList ds gs before) (hl : laidOutB P = true) (hr : ∀ t ∈ f.params.toList, P.readableRec t = true ∧ t < P.types.size)
    (hTB : f.resultTypes = #[TB]) (ht : P.underlying TB = some .bool) (hs1 : (s.fn H (ds ++ gs)).results = [.lit (.bool true)]) (hs2 : (s.fn H (ds ++ gs)).args = ds) (hv0 : s.vars = []) (hv1 : (s.fn H (ds ++ gs)).vars = [])
    (hle : Le W W') : s.post enc P f apart fresh handsOn false W args (.bool true) W' := by
  have hlt : ∀ x ∈ before, x.block < W.heap.size := fun x hx => by simpa using hW.lt x hx
  have hW' := hW
  obtain ⟨p, q, hA, hV, hbe, _, _⟩ := hW
  rw [hv0] at hV
  obtain ⟨_, rfl⟩ := trodVars_none hV
  rw [List.append_nil] at hbe
  subst hbe
  refine ⟨ds, gs, before, [], before, [], hW', ?_, ?_, ?_, World.keptBut_mono (fun p hp => ⟨hp, .inr (.inl hp)⟩) ((below_of hle).frame _), fun h => by cases h⟩
  · rw [hs1, hTB]
    exact trodAll_mk1 (shut_bool ht _)
  · rw [hs2]
    exact trodAll_below hl (below_of hle) hr hA hlt
  · rw [hv0, hv1]
    rfl
end
end Go.Vk
