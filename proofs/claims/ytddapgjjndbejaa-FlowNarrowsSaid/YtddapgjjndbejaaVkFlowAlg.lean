/- Nets, as plain mathematics, part 2: cheapest ways. No program in sight. -/
import Derived.Test.YtddapgjjndbejaaVkFlowMath
namespace Go.Vk.Flow
open Go

def far : Int := 1152921504606846976
def isD (dn : List Bool) (v : Nat) : Prop := dn[v]? = some true

theorem nth_set {l : List Int} {i v : Nat} {x : Int} (h : i < l.length) : nth (l.set i x) v = if v = i then x else nth l v := by
  simp only [nth, List.getD_eq_getElem?_getD, List.getElem?_set]
  by_cases e : v = i
  · subst e; simp [h]
  · have : ¬ i = v := fun q => e q.symm
    simp [e, this]

/-- While the cheapest ways are looked for. Q: which steps from nodes that are done have been followed. -/
structure Dj (n : Nat) (st : List Stp) (mo : Nat → Int) (cost : List Int) (last : List Stp) (dn : List Bool) (k : Nat) (rk : Nat → Nat) (Q : Nat → Stp → Prop) : Prop where
  lc : cost.length = n
  ll : last.length = n
  ld : dn.length = n
  cnt : dn.count true = k
  rkl : ∀ v, isD dn v → rk v < k
  nonneg : ∀ v, v < n → 0 ≤ nth cost v
  src : ∀ v, v < n → 0 < mo v → nth cost v = 0
  fin : ∀ v, v < n → nth cost v < far → ∀ s, last[v]? = some s → (s.arc = -1 ∧ nth cost v = 0 ∧ 0 < mo v) ∨
    (0 ≤ s.arc ∧ s ∈ st ∧ s.dst = (v : Int) ∧ isD dn s.src.toNat ∧ nth cost v = nth cost s.src.toNat + s.cost ∧ (isD dn v → rk s.src.toNat < rk v))
  big : ∀ v, v < n → nth cost v ≤ far
  ofin : ∀ v, isD dn v → nth cost v < far
  bd : ∀ v, v < n → nth cost v < far → nth cost v ≤ 2000000 * k ∧ (isD dn v → nth cost v ≤ 2000000 * rk v)
  mono : ∀ u v, isD dn u → v < n → ¬ isD dn v → nth cost u ≤ nth cost v
  relaxed : ∀ u s, isD dn u → s ∈ st → s.src = (u : Int) → Q u s → nth cost s.dst.toNat ≤ nth cost u + s.cost

theorem isD_lt {dn : List Bool} {v : Nat} (h : isD dn v) : v < dn.length := (List.getElem?_eq_some_iff.1 h).1
theorem isD_set {dn : List Bool} {v u : Nat} (h : v < dn.length) : isD (dn.set v true) u ↔ u = v ∨ isD dn u := by
  unfold isD
  rw [List.getElem?_set]
  by_cases e : v = u
  · subst e; simp [h]
  · have : ¬ u = v := fun q => e q.symm
    simp [e, this]
theorem count_set {dn : List Bool} {v : Nat} (h : dn[v]? = some false) : (dn.set v true).count true = dn.count true + 1 := by
  obtain ⟨hl, he⟩ := List.getElem?_eq_some_iff.1 h
  rw [List.count_set hl]
  simp [he]
theorem count_lt {dn : List Bool} {v : Nat} (h : dn[v]? = some false) : dn.count true < dn.length := by
  have h1 := count_set h
  have h2 : (dn.set v true).count true ≤ (dn.set v true).length := List.count_le_length
  rw [List.length_set] at h2
  omega

section
variable {n : Nat} {st : List Stp} {mo : Nat → Int} {cost : List Int} {last : List Stp} {dn : List Bool} {k : Nat} {rk : Nat → Nat} {Q Q' : Nat → Stp → Prop}

/-- A node is done. -/
theorem Dj.pick (h : Dj n st mo cost last dn k rk fun _ _ => True) {v : Nat} (hv : v < n) (hd : dn[v]? = some false) (hf : nth cost v < far) (hmin : ∀ u, u < n → ¬ isD dn u → nth cost v ≤ nth cost u) :
    Dj n st mo cost last (dn.set v true) (k + 1) (fun u => if u = v then k else rk u) (fun u _ => u ≠ v) ∧ ∀ u, isD (dn.set v true) u → nth cost u ≤ nth cost v := by
  have hl : v < dn.length := by rw [h.ld]; exact hv
  have hnd : ¬ isD dn v := by unfold isD; rw [hd]; simp
  have hset : ∀ u, isD (dn.set v true) u ↔ u = v ∨ isD dn u := fun u => isD_set hl
  refine ⟨⟨h.lc, h.ll, by rw [List.length_set]; exact h.ld, by rw [count_set hd, h.cnt], fun u hu => ?_, h.nonneg, h.src, fun u hu hfu s hs => ?_, h.big, fun u hu => ?_, fun u hu hfu => ?_, fun u x hu hx hnx => ?_, fun u s hu hs hsu hq => ?_⟩, fun u hu => ?_⟩
  · rcases (hset u).1 hu with rfl | hu
    · simp
    · have := h.rkl u hu
      have hne : u ≠ v := fun e => hnd (e ▸ hu)
      simp only [hne, if_false]; omega
  · rcases h.fin u hu hfu s hs with h1 | ⟨h1, h2, h3, h4, h5, h6⟩
    · exact .inl h1
    · refine .inr ⟨h1, h2, h3, (hset _).2 (.inr h4), h5, fun hu' => ?_⟩
      have hne : s.src.toNat ≠ v := fun e => hnd (e ▸ h4)
      have h7 := h.rkl _ h4
      rcases (hset u).1 hu' with rfl | hu''
      · simp only [hne, if_false, if_true]; exact h7
      · have hne2 : u ≠ v := fun e => hnd (e ▸ hu'')
        simp only [hne, hne2, if_false]; exact h6 hu''
  · rcases (hset u).1 hu with rfl | hu
    · exact hf
    · exact h.ofin u hu
  · have h1 := h.bd u hu hfu
    refine ⟨by omega, fun hu' => ?_⟩
    rcases (hset u).1 hu' with rfl | hu'
    · simp only [if_true]; exact h1.1
    · have hne : u ≠ v := fun e => hnd (e ▸ hu')
      simp only [hne, if_false]; exact h1.2 hu'
  · have hnx' : ¬ isD dn x := fun q => hnx ((hset x).2 (.inr q))
    rcases (hset u).1 hu with rfl | hu
    · exact hmin x hx hnx'
    · exact h.mono u x hu hx hnx'
  · rcases (hset u).1 hu with rfl | hu
    · exact absurd rfl hq
    · exact h.relaxed u s hu hs hsu trivial
  · rcases (hset u).1 hu with rfl | hu
    · exact Int.le_refl _
    · exact h.mono u v hu hv hnd

/-- A step from the node that was done last is followed. -/
theorem Dj.relax (h : Dj n st mo cost last dn k rk Q) {v : Nat} {s : Stp} (hv : isD dn v) (htop : ∀ u, isD dn u → nth cost u ≤ nth cost v) (hs : s ∈ st) (hsv : s.src = (v : Int)) (hd : 0 ≤ s.dst ∧ s.dst < n)
    (hc : 0 ≤ s.cost ∧ s.cost ≤ 2000000) (harc : 0 ≤ s.arc) (hk : rk v + 1 = k) (hn : k ≤ 1000) (hQ' : ∀ u t, Q' u t → Q u t ∨ (u = v ∧ t = s)) (hlt : nth cost v + s.cost < nth cost s.dst.toNat) :
    Dj n st mo (cost.set s.dst.toNat (nth cost v + s.cost)) (last.set s.dst.toNat s) dn k rk Q' ∧ (∀ u, isD dn u → nth (cost.set s.dst.toNat (nth cost v + s.cost)) u ≤ nth (cost.set s.dst.toNat (nth cost v + s.cost)) v) := by
  have hvn : v < n := by have := isD_lt hv; rw [h.ld] at this; exact this
  have hto : s.dst.toNat < n := by omega
  have htl : s.dst.toNat < cost.length := by rw [h.lc]; exact hto
  have hnd : ¬ isD dn s.dst.toNat := fun q => by have := htop _ q; omega
  have hns : ∀ u, nth (cost.set s.dst.toNat (nth cost v + s.cost)) u = if u = s.dst.toNat then nth cost v + s.cost else nth cost u := fun u => nth_set htl
  have hD : ∀ u, isD dn u → u ≠ s.dst.toNat := fun u hu e => hnd (e ▸ hu)
  have hnv := h.nonneg v hvn
  have hbv := (h.bd v hvn (h.ofin v hv)).2 hv
  have hfar : far = 1152921504606846976 := rfl
  have hvs : v = s.src.toNat := by omega
  refine ⟨⟨by rw [List.length_set]; exact h.lc, by rw [List.length_set]; exact h.ll, h.ld, h.cnt, h.rkl, fun u hu => ?_, fun u hu hm => ?_, fun u hu hfu t ht => ?_, fun u hu => ?_, fun u hu => ?_, fun u hu hfu => ?_, fun u x hu hx hnx => ?_, fun u t hu ht htu hq => ?_⟩, fun u hu => ?_⟩
  · rw [hns]; split
    · omega
    · exact h.nonneg u hu
  · rw [hns]; split
    · rename_i e; subst e
      have := h.src _ hu hm; omega
    · exact h.src u hu hm
  · rw [hns] at hfu
    rw [hns]
    rw [List.getElem?_set] at ht
    by_cases e : u = s.dst.toNat
    · subst e
      simp only [h.ll, hto, if_true] at ht
      have ht' : t = s := Option.some.inj ht.symm
      subst ht'
      rw [if_pos rfl]
      refine .inr ⟨harc, hs, by omega, hvs ▸ hv, ?_, fun q => absurd q hnd⟩
      rw [hns, ← hvs, if_neg (hD v hv)]
    · have e' : ¬ s.dst.toNat = u := fun q => e q.symm
      rw [if_neg e'] at ht
      rw [if_neg e] at hfu ⊢
      rcases h.fin u hu hfu t ht with h1 | ⟨h1, h2, h3, h4, h5, h6⟩
      · exact .inl h1
      · refine .inr ⟨h1, h2, h3, h4, ?_, h6⟩
        rw [hns, if_neg (hD _ h4)]; exact h5
  · rw [hns]; split
    · omega
    · exact h.big u hu
  · rw [hns, if_neg (hD u hu)]; exact h.ofin u hu
  · rw [hns] at hfu ⊢
    split
    · rename_i e; subst e
      exact ⟨by omega, fun q => absurd q hnd⟩
    · rename_i e
      rw [if_neg e] at hfu
      exact h.bd u hu hfu
  · rw [hns, hns, if_neg (hD u hu)]
    split
    · have := htop u hu; omega
    · exact h.mono u x hu hx hnx
  · rw [hns, hns, if_neg (hD u hu)]
    rcases hQ' u t hq with hq | ⟨rfl, rfl⟩
    · have := h.relaxed u t hu ht htu hq
      split
      · rename_i e; rw [e] at this; omega
      · exact this
    · rw [if_pos rfl]; exact Int.le_refl _
  · rw [hns, hns, if_neg (hD u hu), if_neg (hD v hv)]; exact htop u hu

/-- A step that is no cheaper. -/
theorem Dj.keep (h : Dj n st mo cost last dn k rk Q) {v : Nat} {s : Stp} (hQ' : ∀ u t, Q' u t → Q u t ∨ (u = v ∧ t = s)) (hlt : ¬ nth cost v + s.cost < nth cost s.dst.toNat) : Dj n st mo cost last dn k rk Q' :=
  ⟨h.lc, h.ll, h.ld, h.cnt, h.rkl, h.nonneg, h.src, h.fin, h.big, h.ofin, h.bd, h.mono, fun u t hu ht htu hq => by
    rcases hQ' u t hq with hq | ⟨rfl, rfl⟩
    · exact h.relaxed u t hu ht htu hq
    · omega⟩
theorem Dj.more (h : Dj n st mo cost last dn k rk Q) (hQ : ∀ (u : Nat) (t : Stp), t ∈ st → t.src = (u : Int) → Q' u t → Q u t) : Dj n st mo cost last dn k rk Q' :=
  ⟨h.lc, h.ll, h.ld, h.cnt, h.rkl, h.nonneg, h.src, h.fin, h.big, h.ofin, h.bd, h.mono, fun u t hu ht htu hq => h.relaxed u t hu ht htu (hQ u t ht htu hq)⟩
end

/-- The costs at first. -/
def cost0 (n : Nat) (mo : Nat → Int) (i : Nat) : List Int := (List.range n).map fun v => if v < i ∧ 0 < mo v then 0 else far
def last0 (n : Nat) (mo : Nat → Int) (i : Nat) : List Stp := (List.range n).map fun v => if v < i ∧ 0 < mo v then ⟨-1, false, 0, 0, 0⟩ else ⟨0, false, 0, 0, 0⟩
section
variable {n : Nat} {mo : Nat → Int} {i : Nat}
theorem map_set {α : Type} {n i : Nat} {f g : Nat → α} {x : α} (hi : i < n) (hx : g i = x) (h : ∀ v, v ≠ i → f v = g v) : ((List.range n).map f).set i x = (List.range n).map g := by
  apply List.ext_getElem?
  intro j
  rw [List.getElem?_set]
  by_cases e : i = j
  · subst e; simp [hi, hx]
  · simp only [e, if_false, List.getElem?_map]
    by_cases hj : j < n
    · simp [hj, h j (fun q => e q.symm)]
    · simp [hj]
theorem cost0_zero : cost0 n mo 0 = List.replicate n far := by simp [cost0, List.map_const']
theorem last0_zero : last0 n mo 0 = List.replicate n ⟨0, false, 0, 0, 0⟩ := by simp [last0, List.map_const']
theorem cost0_set (hi : i < n) (hm : 0 < mo i) : (cost0 n mo i).set i 0 = cost0 n mo (i + 1) :=
  map_set hi (by rw [if_pos ⟨by omega, hm⟩]) fun v hv => by
    by_cases c : v < i
    · have : v < i + 1 := by omega
      simp [c, this]
    · have : ¬ v < i + 1 := by omega
      simp [c, this]
theorem last0_set (hi : i < n) (hm : 0 < mo i) : (last0 n mo i).set i ⟨-1, false, 0, 0, 0⟩ = last0 n mo (i + 1) :=
  map_set hi (by rw [if_pos ⟨by omega, hm⟩]) fun v hv => by
    by_cases c : v < i
    · have : v < i + 1 := by omega
      simp [c, this]
    · have : ¬ v < i + 1 := by omega
      simp [c, this]
theorem cost0_same (hm : ¬ 0 < mo i) : cost0 n mo i = cost0 n mo (i + 1) := by
  apply List.map_congr_left
  intro v _
  by_cases e : v = i
  · subst e; simp [hm]
  · by_cases c : v < i
    · have : v < i + 1 := by omega
      simp [c, this]
    · have : ¬ v < i + 1 := by omega
      simp [c, this]
theorem last0_same (hm : ¬ 0 < mo i) : last0 n mo i = last0 n mo (i + 1) := by
  apply List.map_congr_left
  intro v _
  by_cases e : v = i
  · subst e; simp [hm]
  · by_cases c : v < i
    · have : v < i + 1 := by omega
      simp [c, this]
    · have : ¬ v < i + 1 := by omega
      simp [c, this]
theorem cost0_get (hi : i < n) (k : Nat) : (cost0 n mo k)[i]? = some (if i < k ∧ 0 < mo i then 0 else far) := by simp [cost0, hi]
theorem last0_get (hi : i < n) (k : Nat) : (last0 n mo k)[i]? = some (if i < k ∧ 0 < mo i then ⟨-1, false, 0, 0, 0⟩ else ⟨0, false, 0, 0, 0⟩) := by simp [last0, hi]

theorem last0_fresh (hi : i < n) : (last0 n mo i)[i]? = some ⟨0, false, 0, 0, 0⟩ := by rw [last0_get hi, if_neg (by omega)]

theorem Dj.start (n : Nat) (st : List Stp) (mo : Nat → Int) : Dj n st mo (cost0 n mo n) (last0 n mo n) (List.replicate n false) 0 (fun _ => 0) fun _ _ => True := by
  have hnD : ∀ v, ¬ isD (List.replicate n false) v := by
    intro v hv
    unfold isD at hv
    rw [List.getElem?_replicate] at hv
    split at hv <;> simp at hv
  have hc : ∀ v, v < n → nth (cost0 n mo n) v = if 0 < mo v then 0 else far := by
    intro v hv
    rw [nth_of (cost0_get hv n)]
    simp [hv]
  have hfar : far = 1152921504606846976 := rfl
  refine ⟨by simp [cost0], by simp [last0], by simp, by simp [List.count_replicate], fun v hv => absurd hv (hnD v), fun v hv => ?_, fun v hv hm => ?_, fun v hv hf s hs => ?_, fun v hv => ?_, fun v hv => absurd hv (hnD v), fun v hv hf => ?_, fun u v hu => absurd hu (hnD u), fun u s hu => absurd hu (hnD u)⟩
  · rw [hc v hv]; split <;> omega
  · rw [hc v hv, if_pos hm]
  · rw [hc v hv] at hf
    rw [last0_get hv n] at hs
    by_cases hm : 0 < mo v
    · left
      rw [if_pos ⟨hv, hm⟩] at hs
      have : s = ⟨-1, false, 0, 0, 0⟩ := Option.some.inj hs.symm
      subst this
      exact ⟨rfl, by rw [hc v hv, if_pos hm], hm⟩
    · rw [if_neg hm] at hf; omega
  · rw [hc v hv]; split <;> omega
  · rw [hc v hv] at hf ⊢
    split at hf
    · rename_i hm; rw [if_pos hm]; exact ⟨by omega, fun q => absurd q (hnD v)⟩
    · omega
end

/-- The cheapest node of those below i that are not done (-1: none). -/
def Mn (cost : List Int) (dn : List Bool) (i : Nat) (v : Int) : Prop :=
  (v = -1 ∧ ∀ u, u < i → ¬ isD dn u → ¬ nth cost u < far) ∨
  ∃ v0 : Nat, v = (v0 : Int) ∧ v0 < i ∧ dn[v0]? = some false ∧ nth cost v0 < far ∧ ∀ u, u < i → ¬ isD dn u → nth cost v0 ≤ nth cost u
section
variable {cost : List Int} {dn : List Bool} {i : Nat} {v : Int} {d : Bool}
theorem notD (hd : dn[i]? = some false) : ¬ isD dn i := by unfold isD; rw [hd]; simp
theorem Mn.zero : Mn cost dn 0 (-1) := .inl ⟨rfl, fun u h => absurd h (Nat.not_lt_zero u)⟩
theorem Mn.lt (h : Mn cost dn i v) : -1 ≤ v ∧ v < i := by
  rcases h with ⟨rfl, _⟩ | ⟨v0, rfl, h1, _⟩ <;> omega
theorem Mn.skipD (h : Mn cost dn i v) (hd : dn[i]? = some true) : Mn cost dn (i + 1) v := by
  have key : ∀ u, u < i + 1 → ¬ isD dn u → u < i := fun u hu hnd => by
    have : u ≠ i := fun e => hnd (e ▸ hd)
    omega
  rcases h with ⟨h1, h2⟩ | ⟨v0, h1, h2, h3, h4, h5⟩
  · exact .inl ⟨h1, fun u hu hnd => h2 u (key u hu hnd) hnd⟩
  · exact .inr ⟨v0, h1, by omega, h3, h4, fun u hu hnd => h5 u (key u hu hnd) hnd⟩
theorem Mn.skipF (h : Mn cost dn i v) (hf : ¬ nth cost i < far) : Mn cost dn (i + 1) v := by
  rcases h with ⟨h1, h2⟩ | ⟨v0, h1, h2, h3, h4, h5⟩
  · refine .inl ⟨h1, fun u hu hnd => ?_⟩
    rcases Nat.lt_or_ge u i with hu' | hu'
    · exact h2 u hu' hnd
    · have : u = i := by omega
      subst this; exact hf
  · refine .inr ⟨v0, h1, by omega, h3, h4, fun u hu hnd => ?_⟩
    rcases Nat.lt_or_ge u i with hu' | hu'
    · exact h5 u hu' hnd
    · have : u = i := by omega
      subst this; omega
theorem Mn.keep (h : Mn cost dn i v) (hv : ¬ v < 0) (hc : ¬ nth cost i < nth cost v.toNat) : Mn cost dn (i + 1) v := by
  rcases h with ⟨h1, h2⟩ | ⟨v0, h1, h2, h3, h4, h5⟩
  · omega
  · subst h1
    refine .inr ⟨v0, rfl, by omega, h3, h4, fun u hu hnd => ?_⟩
    rcases Nat.lt_or_ge u i with hu' | hu'
    · exact h5 u hu' hnd
    · have : u = i := by omega
      subst this
      rw [Int.toNat_natCast] at hc; omega
theorem Mn.take1 (h : Mn cost dn i v) (hv : v < 0) (hd : dn[i]? = some false) (hf : nth cost i < far) : Mn cost dn (i + 1) (i : Int) := by
  rcases h with ⟨h1, h2⟩ | ⟨v0, h1, _⟩
  · refine .inr ⟨i, rfl, by omega, hd, hf, fun u hu hnd => ?_⟩
    rcases Nat.lt_or_ge u i with hu' | hu'
    · have := h2 u hu' hnd; omega
    · have : u = i := by omega
      subst this; exact Int.le_refl _
  · omega
theorem Mn.take2 (h : Mn cost dn i v) (hv : ¬ v < 0) (hd : dn[i]? = some false) (hf : nth cost i < far) (hc : nth cost i < nth cost v.toNat) : Mn cost dn (i + 1) (i : Int) := by
  rcases h with ⟨h1, h2⟩ | ⟨v0, h1, h2, h3, h4, h5⟩
  · omega
  · subst h1
    rw [Int.toNat_natCast] at hc
    refine .inr ⟨i, rfl, by omega, hd, hf, fun u hu hnd => ?_⟩
    rcases Nat.lt_or_ge u i with hu' | hu'
    · have := h5 u hu' hnd; omega
    · have : u = i := by omega
      subst this; exact Int.le_refl _
end

def Tp (cost : List Int) (dn : List Bool) (v : Nat) : Prop := ∀ u, isD dn u → nth cost u ≤ nth cost v
theorem Qstep {L0 : List Stp} {i v0 : Nat} {s : Stp} (hs : L0[i]? = some s) : ∀ (u : Nat) (t : Stp), (u ≠ v0 ∨ t ∈ L0.take (i + 1)) → (u ≠ v0 ∨ t ∈ L0.take i) ∨ (u = v0 ∧ t = s) := by
  intro u t h
  obtain ⟨hil, he⟩ := List.getElem?_eq_some_iff.1 hs
  by_cases e : u = v0
  · rcases h with h | h
    · exact absurd e h
    · rw [take_snoc L0 i hil, List.mem_append] at h
      rcases h with h | h
      · exact .inl (.inr h)
      · exact .inr ⟨e, by simpa [he] using h⟩
  · exact .inl (.inl e)
theorem Qend {st L0 : List Stp} {v0 : Nat} (hL0 : L0 = st.filter fun s => decide (s.src = (v0 : Int))) : ∀ (u : Nat) (t : Stp), t ∈ st → t.src = (u : Int) → True → (u ≠ v0 ∨ t ∈ L0) := by
  intro u t ht htu _
  by_cases e : u = v0
  · subst e; right; rw [hL0]; exact List.mem_filter.2 ⟨ht, by simpa using htu⟩
  · exact .inl e

/-- What nearest finds. -/
structure Nearest (n : Nat) (st : List Stp) (mo : Nat → Int) (cost : List Int) (last : List Stp) (rk : Nat → Nat) : Prop where
  lc : cost.length = n
  ll : last.length = n
  nonneg : ∀ v, v < n → 0 ≤ nth cost v
  src : ∀ v, v < n → 0 < mo v → nth cost v = 0
  big : ∀ v, v < n → nth cost v ≤ far
  bd : ∀ v, v < n → nth cost v < far → nth cost v ≤ 2000000000
  fin : ∀ v, v < n → nth cost v < far → ∀ s, last[v]? = some s → (s.arc = -1 ∧ nth cost v = 0 ∧ 0 < mo v) ∨
    (0 ≤ s.arc ∧ s ∈ st ∧ s.dst = (v : Int) ∧ nth cost s.src.toNat < far ∧ nth cost v = nth cost s.src.toNat + s.cost ∧ rk s.src.toNat < rk v)
  rkl : ∀ v, v < n → nth cost v < far → rk v < n
  relaxed : ∀ s, s ∈ st → nth cost s.src.toNat < far → nth cost s.dst.toNat ≤ nth cost s.src.toNat + s.cost

theorem Dj.done {n : Nat} {st : List Stp} {mo : Nat → Int} {cost : List Int} {last : List Stp} {dn : List Bool} {k : Nat} {rk : Nat → Nat} (h : Dj n st mo cost last dn k rk fun _ _ => True) (hn : n ≤ 1000)
    (hst : ∀ s, s ∈ st → 0 ≤ s.src ∧ s.src < n) (hall : ∀ v, v < n → ¬ isD dn v → ¬ nth cost v < far) : Nearest n st mo cost last rk := by
  have hD : ∀ v, v < n → nth cost v < far → isD dn v := fun v hv hf => Classical.byContradiction fun q => hall v hv q hf
  have hk : k ≤ n := by rw [← h.cnt, ← h.ld]; exact List.count_le_length
  refine ⟨h.lc, h.ll, h.nonneg, h.src, h.big, fun v hv hf => ?_, fun v hv hf s hs => ?_, fun v hv hf => ?_, fun s hs hf => ?_⟩
  · have := (h.bd v hv hf).1; omega
  · rcases h.fin v hv hf s hs with h1 | ⟨h1, h2, h3, h4, h5, h6⟩
    · exact .inl h1
    · exact .inr ⟨h1, h2, h3, h.ofin _ h4, h5, h6 (hD v hv hf)⟩
  · have := h.rkl v (hD v hv hf); omega
  · have h1 := hst s hs
    have hs' : s.src = ((s.src.toNat : Nat) : Int) := by omega
    exact h.relaxed _ s (hD _ (by omega) hf) hs hs' trivial
end Go.Vk.Flow
