/- Nets, as plain mathematics, part 7: the chapter's example. No program in sight. -/
import Derived.Test.YtddapgjjndbejaaVkFlowEdit
namespace Go.Vk.Flow
open Go

theorem sorted_eq : ∀ (s t : List Int), s.Pairwise (· < ·) → t.Pairwise (· < ·) → (∀ x, x ∈ s ↔ x ∈ t) → s = t := by
  intro s
  induction s with
  | nil =>
    intro t _ _ h
    cases t with
    | nil => rfl
    | cons a t => exact absurd ((h a).2 (List.mem_cons_self ..)) (by simp)
  | cons a s ih =>
    intro t hs ht h
    cases t with
    | nil => exact absurd ((h a).1 (List.mem_cons_self ..)) (by simp)
    | cons b t =>
      obtain ⟨hs1, hs2⟩ := List.pairwise_cons.1 hs
      obtain ⟨ht1, ht2⟩ := List.pairwise_cons.1 ht
      have e : a = b := by
        have h1 := (h a).1 (List.mem_cons_self ..)
        have h2 := (h b).2 (List.mem_cons_self ..)
        rcases List.mem_cons.1 h1 with h1 | h1
        · exact h1
        · rcases List.mem_cons.1 h2 with h2 | h2
          · exact h2.symm
          · have := ht1 a h1; have := hs1 b h2; omega
      subst e
      rw [ih t hs2 ht2 fun x => ?_]
      constructor
      · intro hx
        rcases List.mem_cons.1 ((h x).1 (List.mem_cons_of_mem _ hx)) with h1 | h1
        · have := hs1 x hx; omega
        · exact h1
      · intro hx
        rcases List.mem_cons.1 ((h x).2 (List.mem_cons_of_mem _ hx)) with h1 | h1
        · have := ht1 x hx; omega
        · exact h1
theorem lst_eq {l t : List Int} (ht : t.Pairwise (· < ·)) (h : ∀ x, x ∈ t ↔ x ∈ l ∧ x ≠ 0) : lst l = t :=
  sorted_eq _ _ (lst_sorted l) ht fun x => by rw [mem_lst, h]

def netA : List Arc := [⟨0, 1, 2, 5, 1, 2⟩, ⟨1, 2, 0, 4, 0, 3⟩, ⟨2, 0, 0, 9, 0, 0⟩, ⟨1, 0, 0, 3, 0, 4⟩]
def netB : List Arc := [⟨0, 1, 2, 5, 1, 2⟩, ⟨1, 2, 0, 0, 0, 7⟩, ⟨2, 0, 0, 9, 0, 0⟩, ⟨1, 0, 0, 3, 0, 4⟩]
def netC : List Arc := [⟨0, 1, 2, 5, 1, 2⟩, ⟨1, 2, 0, 0, 0, 7⟩, ⟨2, 0, 0, 9, 0, 0⟩, ⟨1, 0, 0, 1, 0, 8⟩]
theorem chkA : chk 3 netA = 0 := by decide
theorem chkC : chk 3 netC = 0 := by decide
theorem validA : Valid 3 netA := chk_zero.1 chkA
theorem validC : Valid 3 netC := chk_zero.1 chkC
theorem kept3 (x : List Int) : kept 1000 netA x = kept 3 netA x := kept_big (N := 3) validA.ok (by decide)
theorem netK1 : (decide (askd 3 netA (row [3, 2, 2, 1] netA.length 0 1000000) = 0) && kept 1000 netA [3, 2, 2, 1]) = true := by rw [kept3]; decide
theorem netK2 : (decide (askd 3 netA (row [1, 1, 1, 0] netA.length 0 1000000) = 0) && kept 1000 netA [1, 1, 1, 0]) = false := by rw [kept3]; decide
theorem netE1 : askd 3 netA (row [3, 2, 2, 1] netA.length 0 1000000) = 0 := by decide
theorem netE2 : askd 3 netA (row [1, 1, 1, 0] netA.length 0 1000000) = 0 := by decide

/-- The example's circulations, by their four amounts. -/
theorem circA {x : List Int} (h : Circ netA x) : ∃ a b c d, x = [a, b, c, d] ∧ 2 ≤ a ∧ a ≤ 5 ∧ 0 ≤ b ∧ b ≤ 4 ∧ 0 ≤ c ∧ c ≤ 9 ∧ 0 ≤ d ∧ d ≤ 3 ∧ a = b + d ∧ b = c := by
  obtain ⟨⟨hl, hb⟩, hz⟩ := h
  match x, hl with
  | [a, b, c, d], _ =>
    have h0 := hb 0 _ a rfl rfl
    have h1 := hb 1 _ b rfl rfl
    have h2 := hb 2 _ c rfl rfl
    have h3 := hb 3 _ d rfl rfl
    have z0 := hz 0
    have z1 := hz 1
    have z2 := hz 2
    simp [ex, netA] at h0 h1 h2 h3 z0 z1 z2
    exact ⟨a, b, c, d, rfl, by omega⟩
theorem circA_of {a b c d : Int} (h : 2 ≤ a ∧ a ≤ 5 ∧ 0 ≤ b ∧ b ≤ 4 ∧ 0 ≤ c ∧ c ≤ 9 ∧ 0 ≤ d ∧ d ≤ 3 ∧ a = b + d ∧ b = c) : Circ netA [a, b, c, d] := by
  refine ⟨⟨rfl, fun i p y hp hy => ?_⟩, fun v => ?_⟩
  · match i with
    | 0 => simp [netA] at hp hy; subst hp; subst hy; simp; omega
    | 1 => simp [netA] at hp hy; subst hp; subst hy; simp; omega
    | 2 => simp [netA] at hp hy; subst hp; subst hy; simp; omega
    | 3 => simp [netA] at hp hy; subst hp; subst hy; simp; omega
    | i + 4 => simp [netA] at hp
  · simp only [ex, netA]
    match v with
    | 0 => simp; omega
    | 1 => simp; omega
    | 2 => simp; omega
    | v + 3 =>
      have e0 : ¬ (0 : Int) = (v : Int) + 3 := by omega
      have e1 : ¬ (1 : Int) = (v : Int) + 3 := by omega
      have e2 : ¬ (2 : Int) = (v : Int) + 3 := by omega
      simp [e0, e1, e2]
theorem dot4 (p q r s a b c d : Int) : dot [p, q, r, s] [a, b, c, d] = p * a + (q * b + (r * c + (s * d + 0))) := rfl
theorem not_noA : ¬ NoC 3 netA := fun h => h.no validA (circA_of (a := 4) (b := 4) (c := 4) (d := 0) (by decide))

theorem netR {lo hi e : Int} (h : RaR 3 netA 0 lo hi e) : lo = 2 ∧ hi = 5 ∧ e = 0 := by
  cases h with
  | bad h => exact absurd (aski_zero.2 ⟨validA, by decide, by decide⟩) h
  | no _ h => exact absurd h not_noA
  | yes _ h1 h2 =>
    obtain ⟨a, b, c, d, rfl, ha⟩ := circA h1.circ
    obtain ⟨a', b', c', d', rfl, ha'⟩ := circA h2.circ
    have m1 := h1.max validA rfl (circA_of (a := 2) (b := 2) (c := 2) (d := 0) (by decide))
    have m2 := h2.max validA rfl (circA_of (a := 5) (b := 4) (c := 4) (d := 1) (by decide))
    have u1 : unit netA.length (Int.toNat 0) (-1) = [-1, 0, 0, 0] := rfl
    have u2 : unit netA.length (Int.toNat 0) 1 = [1, 0, 0, 0] := rfl
    rw [u1, dot4, dot4] at m1
    rw [u2, dot4, dot4] at m2
    have n1 : nth [a, b, c, d] (Int.toNat 0) = a := rfl
    have n2 : nth [a', b', c', d'] (Int.toNat 0) = a' := rfl
    rw [n1, n2]
    omega
theorem netG1 {n e : Int} {x p : List Int} (h : GrR 3 netA [1, 0, 1, 0] n x p e) : n = 9 ∧ e = 0 ∧ x.length = 4 ∧ x[0]? = some 5 ∧ p.length = 3 := by
  cases h with
  | bad h => exact absurd (by decide) h
  | no _ _ h => exact absurd h not_noA
  | yes _ _ h1 =>
    have hp := h1.pts.len
    obtain ⟨a, b, c, d, rfl, ha⟩ := circA h1.circ
    have m1 := h1.max validA rfl (circA_of (a := 5) (b := 4) (c := 4) (d := 1) (by decide))
    rw [dot4, dot4] at m1
    rw [dot4]
    refine ⟨by omega, rfl, rfl, ?_, by omega⟩
    have : a = 5 := by omega
    rw [this]; rfl
theorem netB1 : (if askd 3 netA (row [0, 0, 1, 0] netA.length (-1000) 1000 && row [0, 0, -1] 3 (-10000000) 10000000) = 0 then bnd [0, 0, -1] netA [0, 0, 1, 0] else 0) = 4 := by decide
theorem netB2 : askd 3 netA (row [0, 0, 1, 0] netA.length (-1000) 1000 && row [0, 0, -1] 3 (-10000000) 10000000) = 0 := by decide
theorem netG2 {n e : Int} {x q : List Int} (h : GrR 3 netA [0, 0, 1, 0] n x q e) : e = 0 ∧ q.length = 3 ∧ askd 3 netA (row [0, 0, 1, 0] netA.length (-1000) 1000 && row q 3 (-10000000) 10000000) = 0 ∧ lst (recs (told q netA [0, 0, 1, 0])) = [3] := by
  cases h with
  | bad h => exact absurd (by decide) h
  | no _ _ h => exact absurd h not_noA
  | yes _ hw h1 =>
    have hp := h1.pts
    refine ⟨rfl, by have := hp.len; omega, askd_zero.2 ⟨validA, ?_⟩, ?_⟩
    · rw [Bool.and_eq_true]; exact ⟨row_wts.2 hw, row_pts.2 hp⟩
    · have s1 := h1.other validA rfl (circA_of (a := 4) (b := 4) (c := 4) (d := 0) (by decide)) (by
        obtain ⟨a, b, c, d, rfl, ha⟩ := circA h1.circ
        rw [dot4, dot4]; omega)
      have s2 := h1.other validA rfl (circA_of (a := 5) (b := 4) (c := 4) (d := 1) (by decide)) (by
        obtain ⟨a, b, c, d, rfl, ha⟩ := circA h1.circ
        rw [dot4, dot4]; omega)
      have a0 := s1 0 _ 4 0 rfl rfl rfl
      have a1 := s1 1 _ 4 0 rfl rfl rfl
      have a2 := s1 2 _ 4 1 rfl rfl rfl
      have b3 := s2 3 _ 1 0 rfl rfl rfl
      simp [rst] at a0 a1 a2 b3
      have e0 : ¬ 0 < rst q ⟨0, 1, 2, 5, 1, 2⟩ 0 := by simp only [rst]; simp; omega
      have e0' : ¬ rst q ⟨0, 1, 2, 5, 1, 2⟩ 0 < 0 := by simp only [rst]; simp; omega
      have e1 : 0 < rst q ⟨1, 2, 0, 4, 0, 3⟩ 0 := by simp only [rst]; simp; omega
      have e2 : ¬ 0 < rst q ⟨2, 0, 0, 9, 0, 0⟩ 1 := by simp only [rst]; simp; omega
      have e2' : ¬ rst q ⟨2, 0, 0, 9, 0, 0⟩ 1 < 0 := by simp only [rst]; simp; omega
      have e3 : ¬ 0 < rst q ⟨1, 0, 0, 3, 0, 4⟩ 0 := by simp only [rst]; simp; omega
      have e3' : ¬ rst q ⟨1, 0, 0, 3, 0, 4⟩ 0 < 0 := by simp only [rst]; simp; omega
      have e : told q netA [0, 0, 1, 0] = [(⟨1, 2, 0, 4, 0, 3⟩, true)] := by
        simp only [told, netA, told1_zero e0 e0', told1_pos e1, told1_zero e2 e2', told1_zero e3 e3']; rfl
      rw [e]
      exact lst_eq (by simp) fun x => by simp [recs, rec1]; omega

theorem netN1 : narE 3 netA 1 0 0 7 = 0 := by decide
theorem netN2 : narE 3 netB 3 0 1 8 = 0 := by decide
theorem netNB : nar netA (Int.toNat 1) 0 0 7 = netB := by decide
theorem netNC : nar netB (Int.toNat 3) 0 1 8 = netC := by decide

theorem asc3 {ns : List Int} (h : asc 3 (-1) ns = true) : ns = [] ∨ ns = [0] ∨ ns = [1] ∨ ns = [2] ∨ ns = [0, 1] ∨ ns = [0, 2] ∨ ns = [1, 2] ∨ ns = [0, 1, 2] := by
  match ns with
  | [] => simp
  | [a] =>
    simp [asc] at h
    have : a = 0 ∨ a = 1 ∨ a = 2 := by omega
    rcases this with rfl | rfl | rfl <;> simp
  | [a, b] =>
    simp [asc] at h
    have : (a = 0 ∧ b = 1) ∨ (a = 0 ∧ b = 2) ∨ (a = 1 ∧ b = 2) := by omega
    rcases this with ⟨rfl, rfl⟩ | ⟨rfl, rfl⟩ | ⟨rfl, rfl⟩ <;> simp
  | [a, b, c] =>
    simp [asc] at h
    have : a = 0 ∧ b = 1 ∧ c = 2 := by omega
    obtain ⟨rfl, rfl, rfl⟩ := this
    simp
  | a :: b :: c :: d :: l =>
    simp [asc] at h
    omega
theorem netO {A e : Int} {ns : List Int} {is : Bool} (h : ObsR 3 netC A ns is e) : A = -1 ∧ ns = [0, 2] ∧ is = true ∧ e = 0 := by
  cases h with
  | bad h => exact absurd chkC h
  | yes _ h => exact (hind_no (A := -1) (ns := [0, 2]) validC (by decide) h).elim
  | no _ h =>
    by_cases hA : 0 ≤ A
    · obtain ⟨a, ha, hlt⟩ := hind_bad h hA
      have hm := List.mem_of_getElem? ha
      simp only [netC, List.mem_cons, List.not_mem_nil, or_false] at hm
      rcases hm with rfl | rfl | rfl | rfl <;> simp at hlt
    · obtain ⟨rfl, h1, h2⟩ := hind_cut h hA
      rcases asc3 h1 with rfl | rfl | rfl | rfl | rfl | rfl | rfl | rfl
      · exact absurd h2 (by decide)
      · exact absurd h2 (by decide)
      · exact absurd h2 (by decide)
      · exact absurd h2 (by decide)
      · exact absurd h2 (by decide)
      · exact ⟨rfl, rfl, rfl, rfl⟩
      · exact absurd h2 (by decide)
      · exact absurd h2 (by decide)
theorem netO1 : askd 3 netC (hind 3 netC (-1) [0, 2]) = 0 := by decide
theorem netO2 : orec netC (-1) [0, 2] = [1, 7, 8] := by
  rw [orec, if_neg (by decide)]
  refine lst_eq (by simp) fun x => ?_
  have e : orecs (cutl [0, 2] netC) = [1, 7, 8] := by decide
  rw [e]; simp; omega
end Go.Vk.Flow
