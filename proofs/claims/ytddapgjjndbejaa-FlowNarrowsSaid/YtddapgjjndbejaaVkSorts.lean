/- The proof engine, part 12: the library's Sort, Compact and Max at slices of the call's own. Generic over the program. -/
import Derived.Test.YtddapgjjndbejaaVkLend
import Derived.Lib.SlicesCompact
import Derived.Lib.RowBridge
import Derived.Sort.Grow
namespace Go.Vk
open Go Go.Sort Go.Lib

theorem flatMap_int (T : TypeId) (l : List Int) : l.flatMap (intE T).enc = l.map (Value.int .i64) := by
  induction l with
  | nil => rfl
  | cons a l ih => simp [intE] at ih ⊢; exact ih

section
variable {w : World} {b : Nat} {c : List Value} {T : TypeId} {l : List Int}

theorem holds_blk (h : Blk w b c T) (hc : c.take l.length = l.map (Value.int .i64)) : Holds (Value.int .i64) w b 0 l.toArray := by
  intro j hj
  have hj' : j < l.length := by simpa using hj
  refine ⟨?_, frozen_at h _ _⟩
  rw [Nat.zero_add]
  refine h.cell ?_
  have h1 : (c.take l.length)[j]? = some (.int .i64 l.toArray[j]!) := by
    rw [hc]
    simp [hj']
  rw [List.getElem?_take, if_pos hj'] at h1
  exact h1

theorem putRow_blk (h : Blk w b c T) (hl : l.length ≤ c.length) : Blk (putRow (Value.int .i64) w b 0 l.toArray) b (l.map (Value.int .i64) ++ c.drop l.length) T := by
  unfold Blk at h ⊢
  unfold putRow mapBlock
  simp only [Array.getElem?_modify, if_true, h, Option.map_some, onCells]
  congr 2
  apply Array.ext_getElem?
  intro k
  simp only [putCells, Array.getElem?_mapIdx, List.getElem?_toArray]
  by_cases hk : k < l.length
  · have hkc : k < c.length := by omega
    rw [List.getElem?_append_left (by simpa using hk)]
    simp [hkc, hk]
  · rw [List.getElem?_append_right (by simp; omega)]
    have : ¬ k < l.toArray.size := by simpa using hk
    have hne : ¬ (0 ≤ k ∧ k < 0 + l.toArray.size) := by simpa using hk
    simp only [hne, if_false, List.length_map, List.getElem?_drop]
    have e : l.length + (k - l.length) = k := by omega
    rw [e]
    cases c[k]? <;> rfl

theorem keep_putRow (w : World) (b : Nat) (d : Array Int) : Keep (· = b) w (putRow (Value.int .i64) w b 0 d) := by
  refine ⟨rfl, rfl, rfl, by simp [putRow, mapBlock], fun k _ hne => ?_⟩
  have hne' : ¬ b = k := fun e => hne e.symm
  simp [putRow, mapBlock, Array.getElem?_modify, hne']
theorem le_ahead (w : World) (n : Nat) : Le w (Sort.ahead w n) := ⟨rfl, rfl, rfl, Nat.le_refl _, fun _ _ _ => rfl⟩
theorem le_grow (w : World) (os : Array Obj) : Le w (grow w os) := ⟨rfl, rfl, rfl, by simp, fun _ h _ => heap_grow_old w os h⟩
end

section
variable {P : Program} {f : FuncId} {T : TypeId} {w : World} {v : Value} {l : List Int}

/-- A slice of integers of one's own: nil, or a block with the numbers at its head. -/
theorem vec_int (h : (vec (intE T) v l).ok w) : (v = .slice none 0 0 ∧ l = []) ∨ ∃ b cap c, v = .slice (some ⟨b, 0, none⟩) l.length cap ∧ l.length ≤ cap ∧ cap ≤ maxLen ∧ c.length = cap ∧ c.take l.length = l.map (Value.int .i64) ∧ Blk w b c T := by
  rcases h with h | ⟨b, cap, c, hv, h1, h2, h3, h4, hb⟩
  · exact .inl h
  · refine .inr ⟨b, cap, c, hv, h1, h2, by simpa [intE] using h3, ?_, hb⟩
    rw [flatMap_int] at h4
    simpa [intE] using h4

theorem vec_of_int {b cap : Nat} {c : List Value} (h1 : l.length ≤ cap) (h2 : cap ≤ maxLen) (h3 : c.length = cap) (h4 : c.take l.length = l.map (Value.int .i64)) (hb : Blk w b c T) : (vec (intE T) (.slice (some ⟨b, 0, none⟩) l.length cap) l).ok w := by
  refine .inr ⟨b, cap, c, rfl, h1, h2, by simpa [intE] using h3, ?_, hb⟩
  rw [flatMap_int]
  simpa [intE] using h4

theorem sort_cl (h : ∀ (blk off cap : Nat) (zs : List Int) (w : World), Holds (Value.int .i64) w blk off zs.toArray → blk < w.heap.size → zs.length < 4611686018427387904 →
      Calls P f #[.slice (some ⟨blk, off, none⟩) zs.length cap] w fun e w' => e = .returned (.tuple #[]) ∧ ∃ n os, w' = grow (putRow (Value.int .i64) (Sort.ahead w n) blk off (zs.mergeSort fun x y => decide (x ≤ y)).toArray) os)
    (hn : ∀ (p : Option Addr) (cap : Nat) (w : World), Calls P f #[.slice p 0 cap] w fun e w' => e = .returned (.tuple #[]) ∧ w' = w)
    (S : Own (vec (intE T) v l).fp w w [vec (intE T) v l]) (hl : l.length < 4611686018427387904) :
    Cl P f #[v] w fun _ w' => Own (vec (intE T) v l).fp w w' [vec (intE T) v (l.mergeSort fun x y => decide (x ≤ y))] := by
  rcases vec_int (S.at 0 rfl) with ⟨rfl, rfl⟩ | ⟨b, cap, c, rfl, h1, h2, h3, h4, hb⟩
  · exact (hn none 0 w).mono fun e w' ⟨he, hw⟩ => ⟨_, he, by subst hw; simpa using S⟩
  · refine (h b 0 cap l w (holds_blk hb h4) hb.lt hl).mono fun e w' ⟨he, n, os, hw⟩ => ⟨_, he, ?_⟩
    subst hw
    have hb1 : Blk (Sort.ahead w n) b c T := hb
    have hlen : (l.mergeSort fun x y => decide (x ≤ y)).length = l.length := List.length_mergeSort ..
    have hb2 := putRow_blk (l := l.mergeSort fun x y => decide (x ≤ y)) hb1 (by rw [hlen, h3]; exact h1)
    have hb3 := Blk.keep (X := nob) hb2 (le_grow _ os) id
    rw [hlen] at hb2 hb3
    have hk : Keep (· = b) w (grow (putRow (Value.int .i64) (Sort.ahead w n) b 0 (l.mergeSort fun x y => decide (x ≤ y)).toArray) os) :=
      ((le_ahead w n).of_le.trans (keep_putRow _ b _)).trans (le_grow _ os).of_le
    have hv := vec_of_int (l := l.mergeSort fun x y => decide (x ≤ y)) (cap := cap) (by omega) h2 (by simp; omega) (by rw [hlen]; exact List.take_left' (by simp [hlen])) hb3
    rw [hlen] at hv
    exact S.turn 0 rfl hk (fun bb _ e => ⟨_, _, by subst e; rfl⟩) hv fun bb hbb => .inl hbb

theorem compact_cl (h : ∀ (blk off cap : Nat) (zs : List Int) (w : World), Holds (Value.int .i64) w blk off zs.toArray → zs.length ≤ 9223372036854775807 → zs.length ≤ cap →
      Calls P f #[.slice (some ⟨blk, off, none⟩) zs.length cap] w fun e w' => e = .returned (.slice (some ⟨blk, off, none⟩) (Lib.compact zs).length cap) ∧ ∃ q, w' = putRow (Value.int .i64) (Sort.ahead w q) blk off (Lib.compact zs ++ List.replicate (zs.length - (Lib.compact zs).length) 0).toArray)
    (hn : ∀ (p : Option Addr) (cap : Nat) (w : World), Calls P f #[.slice p 0 cap] w fun e w' => e = .returned (.slice p 0 cap) ∧ w' = w)
    (S : Own (vec (intE T) v l).fp w w [vec (intE T) v l]) :
    Cl P f #[v] w fun v' w' => Own (vec (intE T) v l).fp w w' [vec (intE T) v' (Lib.compact l)] := by
  rcases vec_int (S.at 0 rfl) with ⟨rfl, rfl⟩ | ⟨b, cap, c, rfl, h1, h2, h3, h4, hb⟩
  · exact (hn none 0 w).mono fun e w' ⟨he, hw⟩ => ⟨_, he, by subst hw; simpa [Lib.compact, compactUpTo] using S⟩
  · have hm : maxLen = 9223372036854775807 := rfl
    refine (h b 0 cap l w (holds_blk hb h4) (by omega) h1).mono fun e w' ⟨he, n, hw⟩ => ⟨_, he, ?_⟩
    subst hw
    have hcl := compact_length_le l
    have hb1 : Blk (Sort.ahead w n) b c T := hb
    have hlen : (Lib.compact l ++ List.replicate (l.length - (Lib.compact l).length) 0).length = l.length := by simp; omega
    have hb2 := putRow_blk (l := Lib.compact l ++ List.replicate (l.length - (Lib.compact l).length) 0) hb1 (by rw [hlen, h3]; exact h1)
    rw [hlen] at hb2
    have hk : Keep (· = b) w (putRow (Value.int .i64) (Sort.ahead w n) b 0 (Lib.compact l ++ List.replicate (l.length - (Lib.compact l).length) 0).toArray) :=
      (le_ahead w n).of_le.trans (keep_putRow _ b _)
    have hv := vec_of_int (l := Lib.compact l) (cap := cap) (by omega) h2 (by simp; omega) (by simp [List.take_left']) hb2
    exact S.turn 0 rfl hk (fun bb _ e => ⟨_, _, by subst e; rfl⟩) hv fun bb ⟨n', cap', e⟩ => .inl ⟨l.length, cap, by cases e; rfl⟩
end

/-! ### what comes out: the numbers, each once, ascending -/

theorem compact_sorted {l : List Int} (hs : l.Pairwise (· ≤ ·)) : (Lib.compact l).Pairwise (· < ·) ∧ ∀ x, x ∈ Lib.compact l ↔ x ∈ l := by
  have key : ∀ m, m ≤ l.length → (compactUpTo l.toArray m).Pairwise (· < ·) ∧ (∀ x, x ∈ compactUpTo l.toArray m ↔ x ∈ l.take m) := by
    intro m
    induction m with
    | zero => intro _; simp [compactUpTo]
    | succ m ih =>
      intro hm
      obtain ⟨h1, h2⟩ := ih (by omega)
      have hml : m < l.length := by omega
      have hgm : l.toArray[m]! = l[m] := by simp [hml]
      have hle : ∀ x ∈ l.take m, x ≤ l[m] := by
        intro x hx
        obtain ⟨j, hj, rfl⟩ := List.mem_iff_getElem.1 hx
        have hj' : j < m := by simp at hj; omega
        rw [List.getElem_take]
        exact List.pairwise_iff_getElem.1 hs j m (by omega) hml hj'
      have htk : l.take (m + 1) = l.take m ++ [l[m]] := List.take_succ_eq_append_getElem hml
      rw [compactUpTo_succ, hgm, htk]
      by_cases hk : keeps l.toArray m = true
      · rw [if_pos hk]
        refine ⟨?_, fun x => by simp only [List.mem_append, h2]⟩
        rw [List.pairwise_append]
        refine ⟨h1, by simp, fun x hx y hy => ?_⟩
        have hy' : y = l[m] := by simpa using hy
        subst hy'
        rcases Int.lt_or_eq_of_le (hle x ((h2 x).1 hx)) with h | h
        · exact h
        · exfalso
          simp only [keeps, decide_eq_true_eq] at hk
          rcases hk with rfl | hk
          · simp at h2; simp [h2] at hx
          · have hm0 : 0 < m := by
              rcases Nat.eq_zero_or_pos m with e | e
              · subst e; simp at h2; simp [h2] at hx
              · exact e
            apply hk
            rw [hgm]
            have hg1 : l.toArray[m - 1]! = l[m - 1]'(by omega) := by
              have : m - 1 < l.length := by omega
              simp [this]
            rw [hg1]
            have hx' := (h2 x).1 hx
            obtain ⟨j, hj, rfl⟩ := List.mem_iff_getElem.1 hx'
            have hj' : j < m := by simp at hj; omega
            rw [List.getElem_take] at h
            have a1 : l[m - 1]'(by omega) ≤ l[m] := List.pairwise_iff_getElem.1 hs (m - 1) m (by omega) hml (by omega)
            have a2 : l[j]'(by omega) ≤ l[m - 1]'(by omega) := by
              rcases Nat.lt_or_ge j (m - 1) with e | e
              · exact List.pairwise_iff_getElem.1 hs j (m - 1) (by omega) (by omega) e
              · have : j = m - 1 := by omega
                subst this; exact Int.le_refl _
            omega
      · rw [if_neg hk]
        refine ⟨by simpa using h1, fun x => ?_⟩
        simp only [List.append_nil, h2, List.mem_append, List.mem_singleton]
        refine ⟨.inl, fun h => h.elim id fun h => ?_⟩
        subst h
        simp only [keeps, decide_eq_true_eq, not_or, Decidable.not_not] at hk
        obtain ⟨hm0, hk⟩ := hk
        rw [hgm] at hk
        have hg1 : l.toArray[m - 1]! = l[m - 1]'(by omega) := by
          have : m - 1 < l.length := by omega
          simp [this]
        rw [hg1] at hk
        rw [hk, List.mem_take_iff_getElem]
        exact ⟨m - 1, by omega, rfl⟩
  have := key l.length (Nat.le_refl _)
  rw [List.take_length] at this
  exact this

theorem sorted_unique : ∀ {l m : List Int}, l.Pairwise (· < ·) → m.Pairwise (· < ·) → (∀ x, x ∈ l ↔ x ∈ m) → l = m := by
  intro l
  induction l with
  | nil => intro m _ _ h; cases m with
    | nil => rfl
    | cons a m => have := (h a).2 (List.mem_cons_self ..); simp at this
  | cons a l ih =>
    intro m hl hm h
    cases m with
    | nil => have := (h a).1 (List.mem_cons_self ..); simp at this
    | cons b m =>
      rw [List.pairwise_cons] at hl hm
      have e : a = b := by
        have h1 := (h a).1 (List.mem_cons_self ..)
        have h2 := (h b).2 (List.mem_cons_self ..)
        rcases List.mem_cons.1 h1 with e | h1
        · exact e
        · rcases List.mem_cons.1 h2 with e | h2
          · exact e.symm
          · have := hl.1 b h2; have := hm.1 a h1; omega
      subst e
      rw [ih hl.2 hm.2 fun x => ?_]
      have := h x
      simp only [List.mem_cons] at this
      constructor
      · intro hx
        rcases this.1 (.inr hx) with e | hx'
        · subst e; have := hl.1 x hx; omega
        · exact hx'
      · intro hx
        rcases this.2 (.inr hx) with e | hx'
        · subst e; have := hm.1 x hx; omega
        · exact hx'

theorem mergeSort_le (l : List Int) : (l.mergeSort fun x y => decide (x ≤ y)).Pairwise (· ≤ ·) := by
  have := List.pairwise_mergeSort (le := fun x y : Int => decide (x ≤ y)) (by intro a b c h1 h2; simp at h1 h2 ⊢; omega) (by intro a b; simp; omega) l
  exact this.imp fun h => by simpa using h
end Go.Vk
