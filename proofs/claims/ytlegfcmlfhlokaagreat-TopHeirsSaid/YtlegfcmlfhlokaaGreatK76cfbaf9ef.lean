/- Texts joined for claims: VkSortF, VkDeedSort, VkDeedRoll, VkDeedDo, VkDeedWhole, VkDeedPlay, VkDeedOn, VkDeedAsk, VkDeedLin, VkDeedSum, VkShareMath, VkShareMem, VkDeedRest, VkDeedLaw, VkTopMath. -/
import Derived.Test.YtlegfcmlfhlokaaGreatK14dc260b23
import Derived.Test.YtlegfcmlfhlokaaGreatK8521e6cdc8
import Derived.Shelf.SlSortCmp.WholeK
import Derived.Shelf.SlSortCmp.Whole1
import Derived.Shelf.SlSortCmp.NoneTotal
import Derived.Test.YtlegfcmlfhlokaaGreatKfa6611121b
set_option linter.unusedVariables false
set_option linter.unusedSimpArgs false
set_option linter.unusedSectionVars false
/- The proof engine, part 30: slices.SortFunc at a slice of one's own. Generic over the program. -/
namespace Go.Vk
open Go Go.Sort Go.Proofs
set_option linter.unusedSectionVars false

theorem grow_of {w w' : World} (h : Le w w') : ∃ (q : Nat) (os : Array Obj), w' = grow (w.drewN q) os := by
  obtain ⟨heap, tape, drawn, os, output⟩ := w
  obtain ⟨heap', tape', drawn', os', output'⟩ := w'
  obtain ⟨h1, h2, h3, h4, h5, h6⟩ := h
  simp only at h1 h2 h3 h4 h5 h6
  subst h1; subst h2; subst h3
  refine ⟨drawn' - drawn, heap'.extract heap.size heap'.size, ?_⟩
  have e1 : heap' = heap ++ heap'.extract heap.size heap'.size := by
    apply Array.ext_getElem?
    intro i
    rw [Array.getElem?_append]
    split
    · next hi => exact h5 i hi id
    next hi =>
    rw [Array.getElem?_extract]
    by_cases hi2 : i < heap'.size
    · have e2 : heap.size + (i - heap.size) = i := by omega
      rw [if_pos (by omega), e2]
    rw [if_neg (by omega), Array.getElem?_eq_none (by omega)]
  have e3 : drawn + (drawn' - drawn) = drawn' := by omega
  unfold grow World.drewN
  simp only [e3]
  congr 1
section
variable {α : Type} [Inhabited α] {w : World} {b : Nat} {c : List Value} {T : TypeId} {enc : α → Value} {l : List α}
theorem holds_blkG (h : Blk w b c T) (hc : c.take l.length = l.map enc) : Holds enc w b 0 l.toArray := by
  intro j hj
  have hj' : j < l.length := by simpa using hj
  refine ⟨?_, frozen_at h _ _⟩
  rw [Nat.zero_add]
  refine h.cell ?_
  have h1 : (c.take l.length)[j]? = some (enc l.toArray[j]!) := by
    rw [hc]
    simp [hj']
  rw [List.getElem?_take, if_pos hj'] at h1
  exact h1
theorem putRow_blkG (h : Blk w b c T) (hl : l.length ≤ c.length) : Blk (Sort.putRow enc w b 0 l.toArray) b (l.map enc ++ c.drop l.length) T := by
  unfold Blk at h ⊢
  unfold Sort.putRow mapBlock
  simp only [Array.getElem?_modify, if_true, h, Option.map_some, onCells]
  congr 2
  apply Array.ext_getElem?
  intro k
  simp only [putCells, Array.getElem?_mapIdx, List.getElem?_toArray]
  by_cases hk : k < l.length
  · have hkc : k < c.length := by omega
    rw [List.getElem?_append_left (by simpa using hk)]
    simp [hkc, hk]
  rw [List.getElem?_append_right (by simp; omega)]
  have : ¬ k < l.toArray.size := by simpa using hk
  have hne : ¬ (0 ≤ k ∧ k < 0 + l.toArray.size) := by simpa using hk
  simp only [hne, if_false, List.length_map, List.getElem?_drop]
  have e : l.length + (k - l.length) = k := by omega
  rw [e]
  cases c[k]? <;> rfl
theorem keep_putRowG (w : World) (b : Nat) (d : Array α) : Keep (· = b) w (Sort.putRow enc w b 0 d) := by
  refine ⟨rfl, rfl, rfl, by simp [Sort.putRow, mapBlock], fun k _ hne => ?_, Nat.le_refl _⟩
  have hne' : ¬ b = k := fun e => hne e.symm
  simp [Sort.putRow, mapBlock, Array.getElem?_modify, hne']
theorem le_aheadG (w : World) (n : Nat) : Le w (Sort.ahead w n) := ⟨rfl, rfl, rfl, Nat.le_refl _, fun _ _ _ => rfl, Nat.le_add_right _ _⟩
theorem le_growG (w : World) (os : Array Obj) : Le w (grow w os) := ⟨rfl, rfl, rfl, by simp, fun _ h _ => heap_grow_old w os h, Nat.le_refl _⟩
theorem flatK_list (E : Elt α) (l : List α) : (flatK E.enc E.sz l.toArray).toList = l.flatMap E.enc := by
  apply List.ext_getElem?
  intro t
  have hlen := flatMap_enc_length E l
  by_cases ht : t < l.length * E.sz
  · have hp := E.pos
    have hq : t / E.sz < l.length := (Nat.div_lt_iff_lt_mul hp).2 ht
    have hr : t % E.sz < E.sz := Nat.mod_lt _ hp
    have ha : l[t / E.sz]? = some l[t / E.sz] := List.getElem?_eq_getElem hq
    have hx : (E.enc l[t / E.sz])[t % E.sz]? = some ((E.enc l[t / E.sz])[t % E.sz]'(by rw [E.len]; exact hr)) := List.getElem?_eq_getElem _
    have h1 := flatMap_enc_get E l _ _ _ _ ha hx
    have e : t / E.sz * E.sz + t % E.sz = t := by rw [Nat.mul_comm]; exact Nat.div_add_mod t E.sz
    rw [e] at h1
    rw [h1, Array.getElem?_toList]
    have hs : t < (flatK E.enc E.sz l.toArray).size := by simpa using ht
    have h2 := get_flatK E.enc E.sz l.toArray t (by simpa using ht)
    rw [getElem!_pos _ t hs] at h2
    rw [Array.getElem?_eq_getElem hs, h2]
    congr 1
    rw [getElem!_pos l.toArray (t / E.sz) (by simpa using hq)]
    simp only [List.getElem_toArray]
    rw [getElem!_pos (E.enc l[t / E.sz]) (t % E.sz) (by rw [E.len]; exact hr)]
  rw [List.getElem?_eq_none (by simpa using Nat.not_lt.1 ht), List.getElem?_eq_none (by rw [hlen]; omega)]
end

section
variable {α : Type} [Inhabited α] {P : Program} {f g : FuncId} {w : World} {v : Value} {l : List α} {E : Elt α} {cf : α → α → Int} {cb : Array Value}
theorem perm_list {d d' : Array α} (h : PermIn 0 d.size d d') : d'.toList.Perm d.toList := by
  obtain ⟨h1, _, h3⟩ := h
  have e1 : (d'.extract 0 d.size).toList = d'.toList := by rw [← h1]; simp
  have e2 : (d.extract 0 d.size).toList = d.toList := by simp
  rwa [e1, e2] at h3
theorem sorted_list {lt : α → α → Bool} {d : Array α} (h : SortedIn lt 0 d.size d) : d.toList.Pairwise fun x y => lt y x = false := by
  rw [List.pairwise_iff_getElem]
  intro i j hi hj hij
  have hi' : i < d.size := by simpa using hi
  have hj' : j < d.size := by simpa using hj
  have := h i j (Nat.zero_le _) hij hj'
  rw [getElem!_pos d j hj', getElem!_pos d i hi'] at this
  simpa using this
/-- The list, sorted. -/
abbrev SortedL (cf : α → α → Int) (l : List α) : Prop := l.Pairwise fun x y => ltOf cf y x = false
/-- slices.SortFunc at elements of several cells. -/
theorem sortK_cl (h : ∀ (blk off cap : Nat) (d : Array α) (w : World), CmpLays P g cb E.enc E.sz cf blk off d.size w → HoldsK E.enc E.sz w blk off d → blk < w.heap.size → d.size < 4611686018427387904 →
      Calls P f #[.slice (some ⟨blk, off, none⟩) d.size cap, .func (.func g) #[] cb] w fun e w' => e = .returned (.tuple #[]) ∧ ∃ d' n os, PermIn 0 d.size d d' ∧ SortedIn (ltOf cf) 0 d.size d' ∧ w' = sortWorldK E.enc E.sz w blk off n d' os)
    (hn : ∀ (p : Option Addr) (cap : Nat) (fv : Value) (w : World), Calls P f #[.slice p 0 cap, fv] w fun e w' => e = .returned (.tuple #[]) ∧ w' = w)
    (hcmp : ∀ x y w1, Cl P g (#[.agg (E.enc x).toArray, .agg (E.enc y).toArray] ++ cb) w1 fun v w2 => v = .int .i64 (cf x y) ∧ Le w1 w2)
    (S : Own (vec E v l).fp w w [vec E v l]) (hl : l.length < 4611686018427387904) :
    Cl P f #[v, .func (.func g) #[] cb] w fun _ w' => ∃ l', l'.Perm l ∧ SortedL cf l' ∧ Own (vec E v l).fp w w' [vec E v l'] := by
  rcases S.at 0 rfl with ⟨rfl, rfl⟩ | ⟨b, cap, c, rfl, h1, h2, h3, h4, hb⟩
  · exact (hn none 0 _ w).mono fun e w' ⟨he, hw⟩ => ⟨_, he, [], .refl _, .nil, by subst hw; exact S⟩
  have hcl : CmpLays P g cb E.enc E.sz cf b 0 l.toArray.size w := fun m os dk _ x y =>
    Calls.mono (hcmp x y _) fun e w' ⟨v, he, hv, hle⟩ => ⟨by rw [he, hv], grow_of hle⟩
  have hlenE := flatMap_enc_length E l
  have hH : HoldsK E.enc E.sz w b 0 l.toArray := by
    unfold HoldsK
    have := holds_blkG (enc := id) (l := l.flatMap E.enc) hb (by rw [hlenE, h4, List.map_id])
    rwa [← flatK_list E l, Array.toArray_toList] at this
  refine (h b 0 cap l.toArray w hcl hH hb.lt (by simpa using hl)).mono fun e w' ⟨he, d', n, os, hp, hs, hw⟩ => ⟨_, he, d'.toList, by simpa using perm_list hp, ?_, ?_⟩
  · have e1 : d'.size = l.toArray.size := hp.1
    rw [← e1] at hs
    exact sorted_list hs
  subst hw
  have hpl : d'.toList.length = l.length := by have := hp.1; simpa using this
  have hfl := flatMap_enc_length E d'.toList
  have hcap : d'.toList.length * E.sz ≤ c.length := by rw [hpl, h3]; exact Nat.mul_le_mul_right _ h1
  have hb1 : Blk (Sort.ahead w n) b c E.T := hb
  have hb2 := putRow_blkG (enc := id) (l := d'.toList.flatMap E.enc) hb1 (by rw [hfl]; exact hcap)
  have e2 : (d'.toList.flatMap E.enc).toArray = flatK E.enc E.sz d' := by rw [← flatK_list E d'.toList, Array.toArray_toList]
  rw [List.map_id, e2] at hb2
  have hb3 := Blk.keep (X := nob) hb2 (le_growG _ os) id
  have hk : Keep (· = b) w (sortWorldK E.enc E.sz w b 0 n d' os) :=
    ((le_aheadG w n).of_le.trans (keep_putRowG (enc := id) _ b _)).trans (le_growG _ os).of_le
  refine S.turn 0 rfl hk (fun bb _ e => ⟨_, _, by subst e; rfl⟩) ?_ fun bb hbb => .inl hbb
  refine .inr ⟨b, cap, _, by rw [hpl], by rw [hpl]; exact h1, h2, ?_, ?_, hb3⟩
  · rw [List.length_append, List.length_drop, hfl]; omega
  rw [← hfl]; exact List.take_left
/-- slices.SortFunc at elements of one cell. -/
theorem sort1_cl {enc : α → Value} (hE : ∀ a, E.enc a = [enc a]) (h : ∀ (blk off cap : Nat) (d : Array α) (w : World), CmpLays1 P g cb enc cf blk off d.size w → Holds enc w blk off d → blk < w.heap.size → d.size < 4611686018427387904 →
      Calls P f #[.slice (some ⟨blk, off, none⟩) d.size cap, .func (.func g) #[] cb] w fun e w' => e = .returned (.tuple #[]) ∧ ∃ d' n os, PermIn 0 d.size d d' ∧ SortedIn (ltOf cf) 0 d.size d' ∧ w' = sortWorld enc w blk off n d' os)
    (hn : ∀ (p : Option Addr) (cap : Nat) (fv : Value) (w : World), Calls P f #[.slice p 0 cap, fv] w fun e w' => e = .returned (.tuple #[]) ∧ w' = w)
    (hcmp : ∀ x y w1, Cl P g (#[enc x, enc y] ++ cb) w1 fun v w2 => v = .int .i64 (cf x y) ∧ Le w1 w2)
    (S : Own (vec E v l).fp w w [vec E v l]) (hl : l.length < 4611686018427387904) :
    Cl P f #[v, .func (.func g) #[] cb] w fun _ w' => ∃ l', l'.Perm l ∧ SortedL cf l' ∧ Own (vec E v l).fp w w' [vec E v l'] := by
  have hfm : ∀ l : List α, l.flatMap E.enc = l.map enc := fun l => by
    induction l with
    | nil => rfl
    | cons a l ih => rw [List.flatMap_cons, hE, ih]; rfl
  have hsz : E.sz = 1 := by
    have := E.len default
    rw [hE] at this
    exact this.symm
  rcases S.at 0 rfl with ⟨rfl, rfl⟩ | ⟨b, cap, c, rfl, h1, h2, h3, h4, hb⟩
  · exact (hn none 0 _ w).mono fun e w' ⟨he, hw⟩ => ⟨_, he, [], .refl _, .nil, by subst hw; exact S⟩
  have hcl : CmpLays1 P g cb enc cf b 0 l.toArray.size w := fun m os dk _ x y =>
    Calls.mono (hcmp x y _) fun e w' ⟨v, he, hv, hle⟩ => ⟨by rw [he, hv], grow_of hle⟩
  rw [hsz, Nat.mul_one, hfm] at h4
  have hH := holds_blkG (enc := enc) (l := l) hb h4
  refine (h b 0 cap l.toArray w hcl hH hb.lt (by simpa using hl)).mono fun e w' ⟨he, d', n, os, hp, hs, hw⟩ => ⟨_, he, d'.toList, by simpa using perm_list hp, ?_, ?_⟩
  · have e1 : d'.size = l.toArray.size := hp.1
    rw [← e1] at hs
    exact sorted_list hs
  subst hw
  have hpl : d'.toList.length = l.length := by have := hp.1; simpa using this
  rw [hsz, Nat.mul_one] at h3
  have hb1 : Blk (Sort.ahead w n) b c E.T := hb
  have hb2 := putRow_blkG (enc := enc) (l := d'.toList) hb1 (by omega)
  rw [Array.toArray_toList] at hb2
  have hb3 := Blk.keep (X := nob) hb2 (le_growG _ os) id
  have hk : Keep (· = b) w (sortWorld enc w b 0 n d' os) :=
    ((le_aheadG w n).of_le.trans (keep_putRowG (enc := enc) _ b _)).trans (le_growG _ os).of_le
  refine S.turn 0 rfl hk (fun bb _ e => ⟨_, _, by subst e; rfl⟩) ?_ fun bb hbb => .inl hbb
  refine .inr ⟨b, cap, _, by rw [hpl], by rw [hpl]; exact h1, h2, ?_, ?_, hb3⟩
  · rw [List.length_append, List.length_drop, List.length_map, hsz]; omega
  rw [hsz, Nat.mul_one, hfm]; exact List.take_left' (by simp)
end
end Go.Vk

/- Deeds, as plain mathematics, part 3: orders. No program in sight. -/
namespace Go.Vk.Deed
open Go Go.Vk Go.Vk.Flow Go.Sort Go.Proofs

def cmpI (a b : Int) : Int := if a < b then -1 else if b < a then 1 else 0
/-- The first that is not 0. -/
def orI (l : List Int) : Int := (l.find? fun x => decide (x ≠ 0)).getD 0
theorem or_skip {l : List Int} {i : Nat} {a : Int} (ha : l[i]? = some a) (h : a = 0) : orI (l.drop i) = orI (l.drop (i + 1)) := by
  obtain ⟨hi, rfl⟩ := List.getElem?_eq_some_iff.1 ha
  rw [List.drop_eq_getElem_cons hi, orI, List.find?_cons_of_neg (by simp [h]), orI]
theorem or_take {l : List Int} {i : Nat} {a : Int} (ha : l[i]? = some a) (h : ¬ a = 0) : orI (l.drop i) = a := by
  obtain ⟨hi, rfl⟩ := List.getElem?_eq_some_iff.1 ha
  rw [List.drop_eq_getElem_cons hi, orI, List.find?_cons_of_pos (by simp [h])]
  rfl
/-- By day, then by number. -/
def cfD (a b : Rw) : Int := orI [cmpI a.1.day b.1.day, cmpI a.1.id b.1.id]
theorem lt_I (a b : Int) : ltOf cmpI a b = decide (a < b) := by
  unfold ltOf cmpI
  split
  · next h => simp [h]
  next h => split <;> simp [h]
theorem swo_I : SWO (ltOf cmpI) where
  irrefl x := by simp [lt_I]
  trans x y z h1 h2 := by simp [lt_I] at *; omega
  ntrans x y z h1 h2 := by simp [lt_I] at *; omega
theorem lt_D (a b : Rw) : ltOf cfD a b = decide (a.1.day < b.1.day ∨ (a.1.day = b.1.day ∧ a.1.id < b.1.id)) := by
  unfold ltOf cfD orI cmpI
  rcases Int.lt_trichotomy a.1.day b.1.day with h | h | h
  · simp [h]
  · rcases Int.lt_trichotomy a.1.id b.1.id with g | g | g
    · simp [h, g]
    · simp [h, g]
    have : ¬ a.1.id < b.1.id := by omega
    simp [h, g, this]
  have : ¬ a.1.day < b.1.day := by omega
  have h2 : ¬ a.1.day = b.1.day := by omega
  simp [h, this, h2]
theorem swo_D : SWO (ltOf cfD) where
  irrefl x := by simp [lt_D]
  trans x y z h1 h2 := by simp [lt_D] at *; omega
  ntrans x y z h1 h2 := by simp [lt_D] at *; omega
instance : Inhabited D := ⟨⟨0, 0, 0, 0, 0, 0, 0, 0, 0, [], []⟩⟩
instance : Inhabited Lz := ⟨⟨0, 0, 0, 0, 0⟩⟩
instance : Inhabited Pl := ⟨⟨0, 0, 0, 0⟩⟩
/-- Numbers in ascending order. -/
theorem asc_of {l l' : List Int} (hp : l'.Perm l) (hs : SortedL cmpI l') : l' = asc l := by
  have h1 : l'.Pairwise (· ≤ ·) := hs.imp fun h => by rw [lt_I] at h; simpa using h
  have h2 : (asc l).Pairwise (· ≤ ·) := by
    have := List.pairwise_mergeSort (le := fun x y : Int => decide (x ≤ y)) (fun a b c => by simp; omega) (fun a b => by simp; omega) l
    exact this.imp fun h => by simpa using h
  exact (hp.trans (List.mergeSort_perm l _).symm).eq_of_pairwise (fun a b _ _ h g => by omega) h1 h2
end Go.Vk.Deed
namespace Go.Vk.Deed
open Go Go.Vk Go.Vk.Flow Go.Sort Go.Proofs
/-! ### what counts, in its order -/
theorem ins_perm (x : D) : ∀ l : List D, (ins x l).Perm (x :: l) := by
  intro l
  induction l with
  | nil => exact .refl _
  | cons y l ih =>
    rw [ins]
    split
    · exact .refl _
    exact (List.Perm.cons y ih).trans (.swap x y l)
theorem order_perm_aux : ∀ (l acc : List D), (l.foldl (fun acc x => ins x acc) acc).Perm (acc ++ l) := by
  intro l
  induction l with
  | nil => intro acc; simp
  | cons x l ih =>
    intro acc
    rw [List.foldl_cons]
    refine (ih _).trans ?_
    refine ((ins_perm x acc).append_right l).trans ?_
    rw [List.cons_append]
    exact List.perm_middle.symm
theorem order_perm (l : List D) : (order l).Perm l := order_perm_aux l []
/-- Is done before. -/
def Bef (a b : D) : Prop := a.day < b.day ∨ (a.day = b.day ∧ a.id < b.id)
abbrev Asc (l : List D) : Prop := l.Pairwise fun a b => a.id < b.id
theorem ins_sorted {x : D} : ∀ {l : List D}, l.Pairwise Bef → (∀ a ∈ l, a.id < x.id) → (ins x l).Pairwise Bef := by
  intro l
  induction l with
  | nil => intro _ _; simp [ins]
  | cons y l ih =>
    intro hs hi
    rw [List.pairwise_cons] at hs
    have hy := hi y (List.mem_cons_self ..)
    rw [ins]
    split
    · next h =>
      refine List.pairwise_cons.2 ⟨fun z hz => ?_, List.pairwise_cons.2 hs⟩
      rcases List.mem_cons.1 hz with rfl | hz
      · exact .inl h
      rcases hs.1 z hz with g | g
      · exact .inl (by omega)
      exact .inl (by omega)
    next h =>
    refine List.pairwise_cons.2 ⟨fun z hz => ?_, ih hs.2 fun a ha => hi a (List.mem_cons_of_mem _ ha)⟩
    rcases List.mem_cons.1 ((ins_perm x l).mem_iff.1 hz) with rfl | hz
    · by_cases e : y.day = z.day
      · exact .inr ⟨e, hy⟩
      exact .inl (by omega)
    exact hs.1 z hz
theorem order_sorted_aux : ∀ (l acc : List D), Asc l → acc.Pairwise Bef → (∀ a ∈ acc, ∀ x ∈ l, a.id < x.id) → (l.foldl (fun acc x => ins x acc) acc).Pairwise Bef := by
  intro l
  induction l with
  | nil => intro acc _ h _; exact h
  | cons x l ih =>
    intro acc hl ha hi
    replace hl := List.pairwise_cons.1 hl
    rw [List.foldl_cons]
    refine ih _ hl.2 (ins_sorted ha fun a h => hi a h x (List.mem_cons_self ..)) fun a ha' y hy => ?_
    rcases List.mem_cons.1 ((ins_perm x acc).mem_iff.1 ha') with rfl | h
    · exact hl.1 y hy
    exact hi a h y (List.mem_cons_of_mem _ hy)
theorem order_sorted {l : List D} (h : Asc l) : (order l).Pairwise Bef := order_sorted_aux l [] h .nil fun _ h => by cases h
theorem right_asc {l : List D} (h : rightD l = true) : Asc l := by
  rw [Asc, List.pairwise_iff_getElem]
  intro i j hi hj hij
  have h1 := (right_id h (List.getElem?_eq_getElem hi)).1
  have h2 := (right_id h (List.getElem?_eq_getElem hj)).1
  omega
/-- What is sorted by day and number is the deeds in their order. -/
theorem order_of {rs rs' : List Rw} (hp : rs'.Perm rs) (hs : SortedL cfD rs') (ha : Asc (dl rs)) : dl rs' = order (dl rs) := by
  have hn : ∀ a ∈ dl rs, ∀ b ∈ dl rs, a.id = b.id → a = b := by
    intro a h b g e
    obtain ⟨i, hi, rfl⟩ := List.mem_iff_getElem.1 h
    obtain ⟨j, hj, rfl⟩ := List.mem_iff_getElem.1 g
    have hpw := List.pairwise_iff_getElem.1 ha
    rcases Nat.lt_trichotomy i j with q | q | q
    · have := hpw i j hi hj q; omega
    · subst q; rfl
    have := hpw j i hj hi q; omega
  have hpd : (dl rs').Perm (dl rs) := hp.map _
  have h1 : (dl rs').Pairwise fun a b => a.day < b.day ∨ (a.day = b.day ∧ a.id ≤ b.id) := by
    rw [dl, List.pairwise_map]
    exact hs.imp fun h => by rw [lt_D] at h; simp at h; omega
  have h2 : (order (dl rs)).Pairwise fun a b => a.day < b.day ∨ (a.day = b.day ∧ a.id ≤ b.id) := (order_sorted ha).imp fun h => by unfold Bef at h; omega
  refine (hpd.trans (order_perm _).symm).eq_of_pairwise (fun a b h g e1 e2 => ?_) h1 h2
  exact hn a (hpd.mem_iff.1 h) b ((order_perm _).mem_iff.1 g) (by omega)
theorem asc_filter {l : List D} (h : Asc l) (p : D → Bool) : Asc (l.filter p) := List.Pairwise.filter p h
theorem dl_filter {rs : List Rw} {p : D → Bool} : dl (rs.filter fun a => p a.1) = (dl rs).filter p := by
  rw [dl, dl, List.filter_map]; rfl
theorem filter_step {α : Type} {l : List α} {i : Nat} {a : α} {p : α → Bool} (ha : l[i]? = some a) : (l.take (i + 1)).filter p = (l.take i).filter p ++ if p a = true then [a] else [] := by
  rw [List.take_add_one, ha, List.filter_append]
  congr 1
  cases h : p a <;> simp [h]
/-- The numbers of the deeds that are void. -/
theorem voided_step {l : List D} {known : Int} {i : Nat} {x : D} (hx : l[i]? = some x) (id : Int) : voided (l.take (i + 1)) known id = (voided (l.take i) known id || decide (x.kind = 8 ∧ x.known ≤ known ∧ x.of = id)) := by
  rw [voided, List.take_add_one, hx, List.any_append]
  simp [voided]
theorem void_t {l : List D} {known : Int} {i : Nat} {x : D} {vs : List Int} (hx : l[i]? = some x) (h : x.kind = 8 ∧ x.known ≤ known) (hv : ∀ id, vs.contains id = voided (l.take i) known id) : ∀ id, (x.of :: vs).contains id = voided (l.take (i + 1)) known id := by
  intro id
  rw [voided_step hx, List.contains_cons, hv, Bool.or_comm]
  congr 1
  rw [Bool.eq_iff_iff]
  simp [h.1, h.2]
  exact ⟨fun e => e.symm, fun e => e.symm⟩
theorem void_f {l : List D} {known : Int} {i : Nat} {x : D} {vs : List Int} (hx : l[i]? = some x) (h : ¬ (x.kind = 8 ∧ x.known ≤ known)) (hv : ∀ id, vs.contains id = voided (l.take i) known id) : ∀ id, vs.contains id = voided (l.take (i + 1)) known id := by
  intro id
  rw [voided_step hx, hv, decide_eq_false (fun g => h ⟨g.1, g.2.1⟩), Bool.or_false]
section
variable {α : Type} {l done : List α} {i : Nat} {a x y : α}
end
end Go.Vk.Deed
namespace Go.Vk.Deed
open Go Go.Vk
end Go.Vk.Deed

/- Deeds, as plain mathematics, part 4: sums over what has been done; bounds. No program in sight. -/
namespace Go.Vk.Deed
open Go Go.Vk

section
variable {α : Type} {p : α → Bool} {f : α → Int} {l m : List α} {i : Nat} {a : α}
theorem sumF_snoc : sumF p f (l ++ [a]) = sumF p f l + if p a = true then f a else 0 := by
  unfold sumF
  rw [List.filter_append, List.map_append]
  cases h : p a with
  | true => simp only [List.filter_cons, h, if_true, List.filter_nil, List.map_cons, List.map_nil]; exact sumI_snoc
  | false => simp [List.filter_cons, h]
theorem sumF_take (ha : l[i]? = some a) : sumF p f (l.take (i + 1)) = sumF p f (l.take i) + if p a = true then f a else 0 := by
  rw [List.take_add_one, ha]; exact sumF_snoc
theorem sumF_bd {B : Int} (hB : 0 ≤ B) (h : ∀ x ∈ l, 0 ≤ f x ∧ f x ≤ B) : 0 ≤ sumF p f l ∧ sumF p f l ≤ B * l.length := by
  have h1 := sumI_bd (l := (l.filter p).map f) (B := B) fun z hz => by
    obtain ⟨y, hy, rfl⟩ := List.mem_map.1 hz
    exact h y (List.mem_filter.1 hy).1
  have h2 : (((l.filter p).map f).length : Int) ≤ l.length := by rw [List.length_map]; exact Int.ofNat_le.2 (List.length_filter_le ..)
  have h3 := Int.mul_le_mul_of_nonneg_left h2 hB
  unfold sumF
  omega
theorem sumF_bd_take (n : Nat) (hn : l.length ≤ 400) (h : ∀ x ∈ l, 0 ≤ f x ∧ f x ≤ 1000000000) : 0 ≤ sumF p f (l.take n) ∧ sumF p f (l.take n) ≤ 400000000000 := by
  have h1 := sumF_bd (p := p) (l := l.take n) (B := 1000000000) (by omega) fun x hx => h x (List.mem_of_mem_take hx)
  rw [List.length_take] at h1
  have : ((min n l.length : Nat) : Int) ≤ 400 := by omega
  omega
theorem sumI_perm {l m : List Int} (h : l.Perm m) : sumI l = sumI m := by
  induction h with
  | nil => rfl
  | cons x _ ih => rw [sumI_cons, sumI_cons, ih]
  | swap x y l => rw [sumI_cons, sumI_cons, sumI_cons, sumI_cons]; omega
  | trans _ _ h1 h2 => exact h1.trans h2
theorem sumF_perm (h : l.Perm m) : sumF p f l = sumF p f m := sumI_perm ((h.filter p).map f)
end

/-- What has been done is of the size that deeds allow. -/
structure StB (s : St) : Prop where
  ll : s.leases.length ≤ 400
  lp : ∀ x ∈ s.leases, 0 ≤ x.parts ∧ x.parts ≤ 1000000000
  pl : s.pledges.length ≤ 400
  pp : ∀ x ∈ s.pledges, 0 ≤ x.parts ∧ x.parts ≤ 1000000000
  po : ∀ x ∈ s.pledges, (1 ≤ x.frm ∧ x.frm ≤ 40) ∧ (1 ≤ x.to ∧ x.to ≤ 40)
  pn : (s.pledges.map (·.deed)).Nodup
  sb : ∀ o i, 0 ≤ s.src o i ∧ s.src o i ≤ 1000000000
  hb : ∀ o, 0 ≤ s.holds o ∧ s.holds o ≤ 1000000000
section
variable {s : St} {o day : Int}
theorem StB.out (h : StB s) (n : Nat) : 0 ≤ sumF (fun x : Ls => decide (x.frm = o ∧ x.day ≤ day ∧ day ≤ x.stop)) (·.parts) (s.leases.take n) ∧ sumF (fun x : Ls => decide (x.frm = o ∧ x.day ≤ day ∧ day ≤ x.stop)) (·.parts) (s.leases.take n) ≤ 400000000000 :=
  sumF_bd_take n h.ll h.lp
theorem StB.inn (h : StB s) (n : Nat) : 0 ≤ sumF (fun x : Ls => decide (x.to = o ∧ x.day ≤ day ∧ day ≤ x.stop)) (·.parts) (s.leases.take n) ∧ sumF (fun x : Ls => decide (x.to = o ∧ x.day ≤ day ∧ day ≤ x.stop)) (·.parts) (s.leases.take n) ≤ 400000000000 :=
  sumF_bd_take n h.ll h.lp
theorem StB.outS (h : StB s) : 0 ≤ Deed.outS s o day ∧ Deed.outS s o day ≤ 400000000000 := by have := h.out (o := o) (day := day) s.leases.length; rwa [List.take_length] at this
theorem StB.inS (h : StB s) : 0 ≤ Deed.inS s o day ∧ Deed.inS s o day ≤ 400000000000 := by have := h.inn (o := o) (day := day) s.leases.length; rwa [List.take_length] at this
theorem StB.pledged (h : StB s) : 0 ≤ Deed.pledged s o ∧ Deed.pledged s o ≤ 400000000000 := by
  have := sumF_bd_take (p := fun x : Pl => decide (x.frm = o)) (f := fun x : Pl => x.parts) (l := s.pledges) s.pledges.length h.pl h.pp
  rw [List.take_length] at this
  exact this
/-- The pledges, each under its deed. -/
def plM (s : St) : List (Int × Pl) := s.pledges.map fun p => (p.deed, p)
theorem plOf_mem {p : Pl} {k : Int} (h : plOf s k = some p) : p ∈ s.pledges ∧ p.deed = k := by
  have h1 := List.find?_some h
  exact ⟨List.mem_of_find?_eq_some h, by simpa using h1⟩
theorem nodup_find {l : List Pl} (hn : (l.map (·.deed)).Nodup) {p : Pl} (hp : p ∈ l) : l.find? (fun q => decide (q.deed = p.deed)) = some p := by
  induction l with
  | nil => cases hp
  | cons q l ih =>
    rw [List.map_cons, List.nodup_cons] at hn
    rcases List.mem_cons.1 hp with rfl | hp
    · rw [List.find?_cons_of_pos (by simp)]
    have hne : ¬ q.deed = p.deed := fun e => hn.1 (e ▸ List.mem_map.2 ⟨p, hp, rfl⟩)
    rw [List.find?_cons_of_neg (by simpa using hne), ih hn.2 hp]
theorem plOf_of (h : StB s) {p : Pl} (hp : p ∈ s.pledges) : plOf s p.deed = some p := nodup_find h.pn hp
theorem plM_vis (h : StB s) : Vis (plOf s) (plM s) := by
  refine ⟨?_, fun q hq => ?_⟩
  · rw [plM, List.map_map]; exact h.pn
  obtain ⟨p, hp, rfl⟩ := List.mem_map.1 hq
  exact plOf_of h hp
theorem plM_all : ∀ k a, plOf s k = some a → (k, a) ∈ plM s := fun k a hk => by
  obtain ⟨h1, h2⟩ := plOf_mem hk
  exact List.mem_map.2 ⟨a, h1, by rw [h2]⟩
/-- All pledges that a map says, in whatever order. -/
theorem pl_perm (h : StB s) {pf : Int → Option Pl} (hp : ∀ k, pf k = plOf s k) {vis : List (Int × Pl)} (hv : Vis pf vis) (hall : ∀ k a, pf k = some a → (k, a) ∈ vis) : (vis.map (·.2)).Perm s.pledges := by
  have e : pf = plOf s := funext hp
  subst e
  have := (hv.perm hall (plM_vis h) plM_all).map (·.2)
  rwa [plM, List.map_map, show ((·.2) ∘ fun p : Pl => (p.deed, p)) = id from rfl, List.map_id] at this
theorem pledged_of (h : StB s) {pf : Int → Option Pl} (hp : ∀ k, pf k = plOf s k) {vis : List (Int × Pl)} (hv : Vis pf vis) (hall : ∀ k a, pf k = some a → (k, a) ∈ vis) :
    sumF (fun x : Pl => decide (x.frm = o)) (·.parts) (vis.map (·.2)) = Deed.pledged s o := sumF_perm (pl_perm h hp hv hall)
theorem vis_bd (h : StB s) {pf : Int → Option Pl} (hp : ∀ k, pf k = plOf s k) {vis : List (Int × Pl)} (hv : Vis pf vis) :
    0 ≤ sumF (fun x : Pl => decide (x.frm = o)) (·.parts) (vis.map (·.2)) ∧ sumF (fun x : Pl => decide (x.frm = o)) (·.parts) (vis.map (·.2)) ≤ 400000000000 := by
  have hsub : ∀ q ∈ vis, q ∈ plM s := fun q hq => plM_all q.1 q.2 (by rw [← hp]; exact hv.of q hq)
  have hl : vis.length ≤ 400 := Nat.le_trans (nodup_le (nodup_of_keys hv.nd) hsub) (by rw [plM, List.length_map]; exact h.pl)
  have := sumF_bd_take (p := fun x : Pl => decide (x.frm = o)) (f := fun x : Pl => x.parts) (l := vis.map (·.2)) vis.length (by rw [List.length_map]; exact hl) fun x hx => by
    obtain ⟨q, hq, rfl⟩ := List.mem_map.1 hx
    obtain ⟨p, hp', e⟩ := List.mem_map.1 (hsub q hq)
    rw [← e]; exact h.pp p hp'
  rwa [List.take_of_length_le (by rw [List.length_map]; omega)] at this

/-! ### the deeds from which parts come -/
theorem ids_asc : ids.Pairwise (· < ·) := by
  rw [ids, List.pairwise_map]
  exact List.pairwise_lt_range.imp fun h => by omega
theorem mem_ids {i : Int} : i ∈ ids ↔ 1 ≤ i ∧ i ≤ 400 := by
  rw [ids, List.mem_map]
  constructor
  · rintro ⟨n, hn, rfl⟩
    have := List.mem_range.1 hn
    omega
  intro h
  exact ⟨(i - 1).toNat, List.mem_range.2 (by omega), by omega⟩
theorem idsS_asc : (idsS s o).Pairwise (· < ·) := List.Pairwise.filter _ ids_asc
theorem mem_idsS {i : Int} : i ∈ idsS s o ↔ (1 ≤ i ∧ i ≤ 400) ∧ 0 < s.src o i := by rw [idsS, List.mem_filter, mem_ids, decide_eq_true_iff]
theorem asc_sorted (l : List Int) : (asc l).Pairwise (· ≤ ·) := by
  have := List.pairwise_mergeSort (le := fun x y : Int => decide (x ≤ y)) (fun a b c => by simp; omega) (fun a b => by simp; omega) l
  exact this.imp fun h => by simpa using h
theorem asc_eq {l m : List Int} (hp : l.Perm m) (hm : m.Pairwise (· ≤ ·)) : asc l = m :=
  ((List.mergeSort_perm l _).trans hp).eq_of_pairwise (fun a b _ _ h g => by omega) (asc_sorted l) hm
theorem vis_len {f : Int → Option Int} (hi : ∀ i a, f i = some a → 1 ≤ i ∧ i ≤ 400) {vis : List (Int × Int)} (hv : Vis f vis) : vis.length ≤ 400 := by
  have h1 : (vis.map (·.1)).length ≤ ids.length := nodup_le hv.nd fun i h => by
    obtain ⟨q, hq, rfl⟩ := List.mem_map.1 h
    exact mem_ids.2 (hi _ _ (hv.of q hq))
  simpa [ids] using h1
/-- What a map says of an owner, in whatever order: the deeds from which parts come. -/
theorem entered_of {f : Int → Option Int} (hs : ∀ i, (f i).getD 0 = s.src o i) (hi : ∀ i a, f i = some a → 1 ≤ i ∧ i ≤ 400) {vis : List (Int × Int)} (hv : Vis f vis) (hall : ∀ k a, f k = some a → (k, a) ∈ vis) :
    asc ((vis.filter fun q => decide (0 < q.2)).map (·.1)) = idsS s o := by
  refine asc_eq (perm_of_mem ?_ ?_ fun i => ?_) (idsS_asc.imp fun h => by omega)
  · exact hv.nd.sublist (List.filter_sublist.map _)
  · exact idsS_asc.imp fun h => by omega
  rw [List.mem_map, mem_idsS]
  constructor
  · rintro ⟨q, hq, rfl⟩
    obtain ⟨h1, h2⟩ := List.mem_filter.1 hq
    have h3 := hv.of q h1
    have h4 := hs q.1
    rw [h3] at h4
    exact ⟨hi _ _ h3, by simp at h2 h4; omega⟩
  rintro ⟨h1, h2⟩
  cases hf : f i with
  | none => have := hs i; rw [hf] at this; simp at this; omega
  | some n =>
    have h3 := hs i
    rw [hf] at h3
    refine ⟨(i, n), List.mem_filter.2 ⟨hall i n hf, ?_⟩, rfl⟩
    simp at h3 ⊢; omega
end
section
variable {P : Program} {w : World} {E : Operand → Value} {T T' ty : TypeId} {x y : Operand}
end

section
variable {s : St} {day : Int} {k : Nat}
theorem mem_owners {o : Int} : o ∈ owners ↔ 1 ≤ o ∧ o ≤ 40 := by
  rw [owners, List.mem_map]
  constructor
  · rintro ⟨n, hn, rfl⟩
    have := List.mem_range.1 hn
    omega
  intro h
  exact ⟨(o - 1).toNat, List.mem_range.2 (by omega), by omega⟩
end
theorem idsS_len (s : St) (o : Int) : (idsS s o).length ≤ 400 := by
  have := List.length_filter_le (fun i => decide (0 < s.src o i)) ids
  simpa [idsS, ids] using this
/-! ### parts that move -/
/-- A move under way. -/
structure MvI (s s' : St) (a c : Int) (L : List Int) (k k' : Int) : Prop where
  eq : moveL a c (idsS s a) k s = moveL a c L k' s'
  k0 : 0 ≤ k' ∧ k' ≤ k
  src : ∀ o i, s.src o i - (k - k') ≤ s'.src o i ∧ s'.src o i ≤ s.src o i + (k - k')
  holds : ∀ o, s.holds o - (k - k') ≤ s'.holds o ∧ s'.holds o ≤ s.holds o + (k - k')
  un : ∀ z ∈ L, s'.src a z = s.src a z
  nd : L.Nodup
  sub : ∀ z ∈ L, 1 ≤ z ∧ z ≤ 400
section
variable {s s' : St} {a c k k' id : Int} {L : List Int}
theorem MvI.start (hk : 0 ≤ k) : MvI s s a c (idsS s a) k k :=
  ⟨rfl, ⟨hk, Int.le_refl _⟩, fun o i => by omega, fun o => by omega, fun _ _ => rfl, idsS_asc.imp fun h => by omega, fun z hz => (mem_idsS.1 hz).1⟩
theorem addS_src {o i n : Int} (o' i' : Int) : (addS s o i n).src o' i' = s.src o' i' + if o' = o ∧ i' = i then n else 0 := by
  show (if o' = o ∧ i' = i then s.src o' i' + n else s.src o' i') = _
  split <;> omega
theorem addS_holds {o i n : Int} (o' : Int) : (addS s o i n).holds o' = s.holds o' + if o' = o then n else 0 := by
  show (if o' = o then s.holds o' + n else s.holds o') = _
  split <;> omega
theorem MvI.amount (h : MvI s s' a c (id :: L) k k') (hB : StB s) : 0 ≤ min k' (s'.src a id) ∧ min k' (s'.src a id) ≤ k' := by
  have h1 := h.un id (List.mem_cons_self ..)
  have h2 := (hB.sb a id).1
  have h3 := h.k0
  omega
theorem MvI.step (h : MvI s s' a c (id :: L) k k') (hB : StB s) : MvI s (addS (addS s' a id (-min k' (s'.src a id))) c id (min k' (s'.src a id))) a c L k (k' - min k' (s'.src a id)) := by
  have hn := h.amount hB
  have hk := h.k0
  have hnd := List.nodup_cons.1 h.nd
  generalize hq : min k' (s'.src a id) = q at *
  refine ⟨?_, by omega, fun o i => ?_, fun o => ?_, fun z hz => ?_, hnd.2, fun z hz => h.sub z (List.mem_cons_of_mem _ hz)⟩
  · rw [h.eq, moveL, hq]
  · have := h.src o i
    rw [addS_src, addS_src]
    split <;> split <;> omega
  · have := h.holds o
    rw [addS_holds, addS_holds]
    split <;> split <;> omega
  have hne : z ≠ id := fun e => hnd.1 (e ▸ hz)
  have := h.un z (List.mem_cons_of_mem _ hz)
  rw [addS_src, addS_src, if_neg (fun e => hne e.2), if_neg (fun e => hne e.2)]
  omega
theorem MvI.done (h : MvI s s' a c [] k k') : s' = moveS s a c k := h.eq.symm
end
/-! ### the maps of a roll that change -/
/-- An entry of an owner's map. -/
def sset (sf : Int → Int → Option Int) (o id x : Int) : Int → Int → Option Int := fun o' => if o' = o then mset (sf o) id x else sf o'
section
variable {n : Nm} {s : St} {hs : Int → Option Int} {pf : Int → Option Pl} {sf : Int → Int → Option Int} {o id x : Int} {m : Nat}
theorem inn_idx (h : n.inn o = some m) : ∃ i : Nat, n.ms[i]? = some (o, m) := List.getElem?_of_mem (Nm.inn_mem h)
theorem innR_set (hnd : (n.ms.map (·.1)).Nodup) {i : Nat} (hi : n.ms[i]? = some (o, m)) : (innR n sf).set i (mapr kInt kInt m (mset (sf o) id x)) = innR n (sset sf o id x) := by
  apply List.ext_getElem?
  intro j
  by_cases e : j = i
  · subst e
    have hl : j < (innR n sf).length := by rw [List.length_map]; exact (List.getElem?_eq_some_iff.1 hi).1
    rw [List.getElem?_set_self hl, List.getElem?_map, hi]
    simp [sset]
  rw [List.getElem?_set_ne (Ne.symm e), List.getElem?_map, List.getElem?_map]
  cases hj : n.ms[j]? with
  | none => rfl
  | some q =>
    have hne : q.1 ≠ o := fun hq => by
      obtain ⟨g1, g2⟩ := List.getElem?_eq_some_iff.1 hj
      obtain ⟨g3, g4⟩ := List.getElem?_eq_some_iff.1 hi
      have hp := List.pairwise_iff_getElem.1 hnd
      rcases Nat.lt_trichotomy j i with q1 | q1 | q1
      · have := hp j i (by simpa using g1) (by simpa using g3) q1
        simp [g2, g4] at this; exact this hq
      · exact e q1
      have := hp i j (by simpa using g3) (by simpa using g1) q1
      simp [g2, g4] at this; exact this hq.symm
    simp [sset, hne]
theorem inn_ok {w : World} (h : (pack (innR n sf)).ok w) (hin : n.inn o = some m) : (mapr kInt kInt m (sf o)).ok w := h.1 _ (List.mem_map.2 ⟨(o, m), Nm.inn_mem hin, rfl⟩)
def Nm.more (n : Nm) (o : Int) (m : Nat) : Nm := { n with ms := n.ms ++ [(o, m)] }
theorem inn_none (h : n.inn o = none) : ∀ q ∈ n.ms, q.1 ≠ o := by
  intro q hq e
  unfold Nm.inn at h
  rw [Option.map_eq_none_iff, List.find?_eq_none] at h
  have := h q hq
  simp [e] at this
theorem more_inn (h : n.inn o = none) : (n.more o m).inn = mset n.inn o m := by
  funext q
  unfold mset Nm.inn Nm.more
  simp only [List.find?_append]
  by_cases e : q = o
  · subst e
    have : n.ms.find? (fun p => decide (p.1 = q)) = none := List.find?_eq_none.2 fun p hp => by simpa using inn_none h p hp
    rw [this]; simp
  have hn : ¬ o = q := fun h => e h.symm
  cases hf : n.ms.find? (fun p => decide (p.1 = q)) <;> simp [e, hn]
theorem RollOk.more (h : RollOk n s hs pf sf) (hin : n.inn o = Option.none) : RollOk (n.more o m) s hs pf sf :=
  ⟨h.h, h.own, h.p, h.s, h.ids, fun q hq => h.none q (by
      rw [more_inn hin] at hq
      unfold mset at hq
      split at hq
      · cases hq
      exact hq), by
    show ((n.ms ++ [(o, m)]).map (·.1)).Nodup
    rw [List.map_append]
    refine List.nodup_append.2 ⟨h.nd, by simp, fun a ha b hb => ?_⟩
    obtain ⟨q, hq, rfl⟩ := List.mem_map.1 ha
    simp at hb; subst hb
    exact inn_none hin q hq⟩
theorem RollOk.add (h : RollOk n s hs pf sf) (ho : 1 ≤ o ∧ o ≤ 40) (hi : 1 ≤ id ∧ id ≤ 400) (hin : n.inn o = some m) : RollOk n (addS s o id x) (mset hs o (s.holds o + x)) pf (sset sf o id (s.src o id + x)) := by
  refine ⟨fun q => ?_, fun q a hq => ?_, h.p, fun q i => ?_, fun q i a hq => ?_, fun q hq i => ?_, h.nd⟩
  · unfold mset addS
    by_cases e : q = o
    · subst e; simp
    simp [e, h.h]
  · unfold mset at hq
    split at hq
    · next e => rw [e]; exact ho
    exact h.own q a hq
  · unfold sset mset addS
    by_cases e : q = o
    · subst e
      by_cases e2 : i = id
      · subst e2; simp
      simp [e2, h.s]
    simp [e, h.s]
  · unfold sset mset at hq
    split at hq
    · next e =>
      dsimp only at hq
      split at hq
      · next e2 => rw [e2]; exact hi
      exact h.ids o i a hq
    exact h.ids q i a hq
  have : q ≠ o := fun e => by rw [e, hin] at hq; cases hq
  unfold sset
  rw [if_neg this]
  exact h.none q hq i
end
section
variable {t : Tys} {b : Nat} {n : Nm} {s : St} {X : Nat → Prop} {w0 w : World} {hs : Int → Option Int} {pf : Int → Option Pl} {sf : Int → Int → Option Int} {ls : List Ls} {is : List Int} {o : Int} {m : Nat}
theorem _root_.Go.Vk.Own.rollNew (S : Own X w0 w [blk b (rollC n) t.roll, mapr kInt kInt n.h hs, vec (lsE t.lease) n.lv ls, mapr kInt plV n.p pf, vec (intE t.int) n.iv is, mapr kInt mV n.s (mset n.inn o m), pack (innR n sf), mapr kInt kInt m mnil])
    (hok : RollOk n s hs pf sf) (hin : n.inn o = none) : Own X w0 w (rollL t b (n.more o m) hs ls pf is sf) := by
  have S1 := Own.into (A := [_, _, _, _, _, _]) S
  have e1 : mapr kInt kInt m (mnil : Int → Option Int) = mapr kInt kInt m (sf o) := by
    congr 1; funext i; exact (hok.none o hin i).symm
  have e2 : innR n sf ++ [mapr kInt kInt m (mnil : Int → Option Int)] = innR (n.more o m) sf := by
    rw [e1]; simp [innR, Nm.more]
  rw [e2, ← more_inn hin] at S1
  exact S1
end
section
variable {P : Program} {b : Frame} {cs : List Frame} {fin : Machine → Prop} {nn : Nat} {all : Array Oper} {rest : List Oper} {k : List Item} {ρ : Env} {ds : List Deferred} {w : World}
  {d' : Option Nat} {ty : TypeId} {pos : String} {af : Array Edge} {g : Option (Nat × Bool)} {T kt et : TypeId} {x y z : Operand} {dk : TypeDesc} {X : Nat → Prop} {w0 : World} {L : List Rsc} {n : Nm} {sf : Int → Int → Option Int} {o i0 v0 : Int} {m : Nat}
/-- An entry is written into an owner's map. -/
theorem l_innUpd (S : Own X w0 w L) (j : Nat) (hj : L[j]? = some (pack (innR n sf))) (hin : n.inn o = some m) (hnd : (n.ms.map (·.1)).Nodup) (hg : gOk all nn ρ g = true) (hK : KeyOk P kt dk kInt) (hu : ∀ w, (underlying T).run P w = .ok (.map kt et) w)
    (hx : ev nn ρ x = .map (some m)) (hy : ev nn ρ y = kInt i0) (hz : ev nn ρ z = kInt v0)
    (h : ∀ w', Own X w0 w' (L.set j (pack (innR n (sset sf o i0 v0)))) → RunL P b cs fin nn all rest k (updO d' undef ρ) ds w') :
    RunL P b cs fin nn all (⟨d', .mapUpdate T x y z, ty, pos, af, g⟩ :: rest) k ρ ds w := by
  obtain ⟨i, hi⟩ := inn_idx hin
  have hM : (innR n sf)[i]? = some (mapr kInt kInt m (sf o)) := by rw [List.getElem?_map, hi]; rfl
  have hok := inn_ok (S.at j hj) hin
  obtain ⟨es, clock, h1, h2⟩ := run_mapUpdate (k0 := i0) (a0 := v0) hok hK hu
  have hlt := MapOk.lt hok
  refine l_skip hg nofun (w' := { w with heap := w.heap.setIfInBounds m (.map es clock) }) ?_ (h _ ?_)
  · simp only [execOp, hx, hy, hz, Sem.run_bind, h1, Result.andThen_ok, Sem.run_pure]
  rw [← innR_set hnd hi]
  refine S.turnIn j hj i hM (Keep.setObj w _) (fun _ _ h => h) ⟨es, clock, ?_, h2⟩ (fun _ h => .inl h)
  simp [hlt]
theorem x_inn {t : Tys} {b : Nat} {s : St} {hs : Int → Option Int} {pf : Int → Option Pl} {E : Operand → Value} (hR : RollRO t b n s hs pf sf w) (hK : KeyOk P kt (.int .i64) kInt) (hu : ∀ w, (underlying T).run P w = .ok (.map kt et) w) (hz : ∀ w, (zeroValue et).run P w = .ok (.int .i64 0) w)
    (hx : E x = ((n.inn o).elim (.map none) mV)) (hy : E y = kInt i0) : Vk.X P E (.lookup T x y false) ty w (.int .i64 (s.src o i0)) w := by
  cases hin : n.inn o with
  | none =>
    rw [hin] at hx
    have h0 : s.src o i0 = 0 := by rw [← hR.ok.s, hR.ok.none o hin]; rfl
    rw [h0]
    exact x_lookup0 hu hK.u (hK.is i0) hx hy hz
  | some m =>
    rw [hin] at hx
    refine x_lookup (hR.em hin) hK hu hx hy hz ?_
    have := hR.ok.s o i0
    cases hf : sf o i0 <;> rw [hf] at this <;> simp at this <;> simp [this]
end
end Go.Vk.Deed

/- Deeds, part 5: a roll that is read whole, and how it changes. Generic over the program. -/
namespace Go.Vk.Deed
open Go Go.Vk

section
variable {t : Tys} {b : Nat} {n : Nm} {s : St} {w : World} {hs : Int → Option Int} {pf : Int → Option Pl} {sf : Int → Int → Option Int} {x : D} {v : Value}
theorem roll_blk (h : RO (rollS t b n s) w) : Blk w b (rollC n) t.roll := let ⟨_, _, _, hR⟩ := RollRO.of h; hR.blk
theorem roll_pm (h : RO (rollS t b n s) w) : (mapr kInt plV n.p (plOf s)).ok w := by
  obtain ⟨hs, pf, sf, hR⟩ := RollRO.of h
  have e : pf = plOf s := funext hR.ok.p
  subst e; exact hR.pm
theorem RollOk.lease (h : RollOk n s hs pf sf) : RollOk { n with lv := v } (leaseS s x) hs pf sf := ⟨h.h, h.own, h.p, h.s, h.ids, h.none, h.nd⟩
theorem RollOk.idle (h : RollOk n s hs pf sf) {id : Int} : RollOk { n with iv := v } (idleS s id) hs pf sf := ⟨h.h, h.own, h.p, h.s, h.ids, h.none, h.nd⟩
theorem plOf_pledge (hn : ∀ p ∈ s.pledges, p.deed ≠ x.id) (k : Int) : plOf (pledgeS s x) k = mset (plOf s) x.id ⟨x.id, x.frm, x.to, x.parts⟩ k := by
  unfold plOf pledgeS mset
  simp only [List.find?_append]
  by_cases e : k = x.id
  · subst e
    have : s.pledges.find? (fun p => decide (p.deed = x.id)) = none := List.find?_eq_none.2 fun p hp => by simpa using hn p hp
    rw [this]; simp
  have hne : ¬ x.id = k := fun h => e h.symm
  cases hf : s.pledges.find? (fun p => decide (p.deed = k)) <;> simp [e, hne]
theorem RollOk.pledge (h : RollOk n s hs pf sf) (hn : ∀ p ∈ s.pledges, p.deed ≠ x.id) : RollOk n (pledgeS s x) hs (mset pf x.id ⟨x.id, x.frm, x.to, x.parts⟩) sf :=
  ⟨h.h, h.own, fun k => by
    rw [plOf_pledge hn]
    unfold mset
    split
    · rfl
    exact h.p k, h.s, h.ids, h.none, h.nd⟩
theorem plOf_redeem (id k : Int) : plOf (redeemS s id) k = mdel (plOf s) id k := by
  unfold plOf redeemS mdel
  by_cases e : k = id
  · subst e
    rw [if_pos rfl]
    refine List.find?_eq_none.2 fun p hp => ?_
    have := (List.mem_filter.1 hp).2
    simpa using this
  rw [if_neg e]
  show List.find? _ (s.pledges.filter _) = _
  rw [List.find?_filter]
  congr 1
  funext p
  by_cases g : p.deed = k
  · have : p.deed ≠ id := fun h => e (g.symm.trans h)
    simp [g, e]
  simp [g]
theorem RollOk.redeem (h : RollOk n s hs pf sf) (id : Int) : RollOk n (redeemS s id) hs (mdel pf id) sf :=
  ⟨h.h, h.own, fun k => by
    rw [plOf_redeem]
    unfold mdel
    split
    · rfl
    exact h.p k, h.s, h.ids, h.none, h.nd⟩
theorem StB.redeem (h : StB s) (id : Int) : StB (redeemS s id) := by
  have hsub : ∀ p ∈ (redeemS s id).pledges, p ∈ s.pledges := fun p hp => (List.mem_filter.1 hp).1
  exact ⟨h.ll, h.lp, Nat.le_trans (List.length_filter_le _ _) h.pl, fun p hp => h.pp p (hsub p hp), fun p hp => h.po p (hsub p hp), h.pn.sublist (List.filter_sublist.map _), h.sb, h.hb⟩
end
section
variable {s : St} {x : D} {p : Pl}
theorem do_enter (k : x.kind = 1) : do1 s x = some (addS s x.to x.id x.parts) := by simp [do1, k]
theorem do_grant (k : x.kind = 2) (h : x.parts ≤ free s x.frm x.day) : do1 s x = some (moveS s x.frm x.to x.parts) := by simp [do1, k, h]
theorem do_grant0 (k : x.kind = 2) (h : ¬ x.parts ≤ free s x.frm x.day) : do1 s x = none := by simp [do1, k, h]
theorem do_heirs (k : x.kind = 3) (h : 0 < free s x.frm x.day) : do1 s x = some (movesS x.frm x.heirs (wholeS (free s x.frm x.day) x.shares) s) := by simp [do1, k, h]
theorem do_heirs0 (k : x.kind = 3) (h : ¬ 0 < free s x.frm x.day) : do1 s x = none := by simp [do1, k, h]
theorem do_lease (k : x.kind = 4) (h : x.parts ≤ free s x.frm x.day) : do1 s x = some (leaseS s x) := by simp [do1, k, h]
theorem do_lease0 (k : x.kind = 4) (h : ¬ x.parts ≤ free s x.frm x.day) : do1 s x = none := by simp [do1, k, h]
theorem do_pledge (k : x.kind = 5) (h : x.parts ≤ free s x.frm x.day) : do1 s x = some (pledgeS s x) := by simp [do1, k, h]
theorem do_pledge0 (k : x.kind = 5) (h : ¬ x.parts ≤ free s x.frm x.day) : do1 s x = none := by simp [do1, k, h]
theorem do_redeem (k : x.kind = 6) (h : plOf s x.of = some p) : do1 s x = some (redeemS s x.of) := by simp [do1, k, h]
theorem do_redeem0 (k : x.kind = 6) (h : plOf s x.of = none) : do1 s x = none := by simp [do1, k, h]
theorem do_seize (k : x.kind = 7) (h : plOf s x.of = some p) : do1 s x = some (moveS (redeemS s x.of) p.frm p.to p.parts) := by simp [do1, k, h]
theorem do_seize0 (k : x.kind = 7) (h : plOf s x.of = none) : do1 s x = none := by simp [do1, k, h]
theorem formed_two (h : formed x = true) (k : x.kind = 2 ∨ x.kind = 4 ∨ x.kind = 5) : (1 ≤ x.frm ∧ x.frm ≤ 40) ∧ (1 ≤ x.to ∧ x.to ≤ 40) ∧ x.frm ≠ x.to ∧ 1 ≤ x.parts ∧ x.parts ≤ 1000000000 := by
  simp only [formed, Bool.and_eq_true] at h
  have hk := h.2
  rcases k with k | k | k <;> simp [kindB, k, own, rng] at hk <;> omega
theorem formed_ent (h : formed x = true) (k : x.kind = 1) : (1 ≤ x.to ∧ x.to ≤ 40) ∧ 1 ≤ x.parts ∧ x.parts ≤ 1000000000 := by
  simp only [formed, Bool.and_eq_true] at h
  have hk := h.2
  simp [kindB, k, own, rng] at hk; omega
theorem formed_id (h : formed x = true) : (1 ≤ x.id ∧ x.id ≤ 400) ∧ (0 ≤ x.day ∧ x.day ≤ 100000) := by
  simp only [formed, Bool.and_eq_true, rng_iff] at h; omega
theorem formed_heirs (h : formed x = true) (k : x.kind = 3) : heirsB x = true := by
  simp only [formed, Bool.and_eq_true] at h
  have hk := h.2
  simp [kindB, k] at hk; exact hk.1
end
theorem try_some {s s' : St} {x : D} (h : do1 s x = some s') : try1 s x = s' := by rw [try1, h]
theorem try_none {s : St} {x : D} (h : do1 s x = none) : try1 s x = idleS s x.id := by rw [try1, h]
end Go.Vk.Deed
namespace Go.Vk
open Go
theorem x_buildA {P : Program} {E : Operand → Value} {T ty e : TypeId} {w : World} {parts : List (Nat × Operand)} {z : Value} {zc out : List Value} {m s : Nat} (hz : ∀ w, (zeroValue T).run P w = .ok z w) (hzc : z.cells = zc.toArray)
    (hu : ∀ w, (underlying T).run P w = .ok (.array m e) w) (hs : ∀ w, (sizeOf e).run P w = .ok s w)
    (hf : Instr.fill (fun i => some (i * s, s)) zc.toArray (parts.map fun p => (p.1, E p.2)) = some out.toArray) : X P E (.build T parts.toArray) ty w (.agg out.toArray) w := by
  refine ⟨nofun, fun _ _ _ _ => ?_⟩
  simp only [execOp, Instr.build, Sem.run_bind, hz, Result.andThen_ok, hzc, hu, hs, List.map_toArray]
  rw [hf]
  rfl
theorem Dl.mono {P : Program} {f : FuncId} {args : Array Value} {u : FrameMode} {w : World} {R R' : FrameMode → World → Prop} (h : Dl P f args u w R) (hr : ∀ u w', R u w' → R' u w') : Dl P f args u w R' := by
  intro c0 cs hc
  obtain ⟨e, u', w', fr, ⟨v, he, hR⟩, hs⟩ := h c0 cs hc
  exact ⟨e, u', w', fr, ⟨v, he, hr _ _ hR⟩, hs⟩
end Go.Vk

/- Deeds, as plain mathematics, part 6: whole parts by shares. No program in sight. -/
namespace Go.Vk.Deed
open Go Go.Vk

theorem cmpI_neg {a b : Int} : cmpI a b < 0 ↔ a < b := by
  unfold cmpI
  by_cases h : a < b
  · simp [h]
  rw [if_neg h]; split <;> simp [h]
/-! ### indices in the order of what was cut off -/
section
variable {c : Int → Int} {l L : List Int} {i j : Nat} {x y : Int}
/-- Comes first: more was cut off, of equal ones the first one. -/
def Fst (c : Int → Int) (x y : Int) : Prop := c y < c x ∨ (c x = c y ∧ x < y)
theorem Fst.trans {z : Int} (h : Fst c x y) (g : Fst c y z) : Fst c x z := by unfold Fst at *; omega
def idxs (n : Nat) : List Int := (List.range n).map fun (i : Nat) => (i : Int)
theorem idxs_len {n : Nat} : (idxs n).length = n := by simp [idxs]
theorem idxs_get {n : Nat} (h : i < n) : (idxs n)[i]? = some (i : Int) := by simp [idxs, h]
theorem idxs_snoc {n : Nat} : idxs (n + 1) = idxs n ++ [(n : Int)] := by simp [idxs, List.range_succ]
theorem mem_idxs {n : Nat} : x ∈ idxs n ↔ 0 ≤ x ∧ x < n := by
  rw [idxs, List.mem_map]
  constructor
  · rintro ⟨k, hk, rfl⟩
    have := List.mem_range.1 hk
    omega
  intro h
  exact ⟨x.toNat, List.mem_range.2 (by omega), by omega⟩
theorem idxs_split {n : Nat} (h : i ≤ n) : idxs n = idxs i ++ (idxs n).drop i := by
  have e : (idxs n).take i = idxs i := by
    rw [idxs, idxs, ← List.map_take, List.take_range, Nat.min_eq_left h]
  rw [← e, List.take_append_drop]
/-- The first i are in order. -/
structure InsO (c : Int → Int) (n i : Nat) (L : List Int) : Prop where
  ex : ∃ A : List Int, L = A ++ (idxs n).drop i ∧ A.Perm (idxs i) ∧ A.Pairwise (Fst c)
  le : i ≤ n
/-- The next one is on its way down. -/
structure InsI (c : Int → Int) (n i j : Nat) (L : List Int) : Prop where
  ex : ∃ A B : List Int, L = A ++ (i : Int) :: (B ++ (idxs n).drop (i + 1)) ∧ A.length = j ∧ (A ++ B).Perm (idxs i) ∧ (A ++ B).Pairwise (Fst c) ∧ ∀ y ∈ B, Fst c i y
  lt : i < n
variable {n : Nat}
theorem InsO.start (h : 1 ≤ n) : InsO c n 1 (idxs n) := ⟨⟨idxs 1, idxs_split h, .refl _, by simp [idxs]⟩, h⟩
theorem InsO.len (h : InsO c n i L) : L.length = n := by
  obtain ⟨A, rfl, hp, _⟩ := h.ex
  have := hp.length_eq
  have := h.le
  rw [List.length_append, List.length_drop, idxs_len]
  rw [idxs_len] at *
  omega
theorem InsI.len (h : InsI c n i j L) : L.length = n ∧ j ≤ i := by
  obtain ⟨A, B, rfl, ha, hp, _⟩ := h.ex
  have h1 := hp.length_eq
  have := h.lt
  rw [List.length_append, idxs_len] at h1
  rw [List.length_append, List.length_cons, List.length_append, List.length_drop, idxs_len]
  omega
theorem InsO.take (h : InsO c n i L) (hi : i < n) : InsI c n i i L := by
  obtain ⟨A, rfl, hp, hs⟩ := h.ex
  refine ⟨⟨A, [], ?_, by have := hp.length_eq; rwa [idxs_len] at this, by rw [List.append_nil]; exact hp, by rw [List.append_nil]; exact hs, by simp⟩, hi⟩
  have hd : (idxs n).drop i = (i : Int) :: (idxs n).drop (i + 1) := by
    have h1 := idxs_get hi
    obtain ⟨h2, h3⟩ := List.getElem?_eq_some_iff.1 h1
    rw [List.drop_eq_getElem_cons h2, h3]
  rw [hd]; rfl
theorem InsI.at (h : InsI c n i j L) : L[j]? = some (i : Int) := by
  obtain ⟨A, B, rfl, ha, _⟩ := h.ex
  rw [List.getElem?_append_right (by omega), ha, Nat.sub_self]; rfl
/-- The one before it. -/
theorem InsI.prev (h : InsI c n i j L) (hj : 0 < j) : ∃ y, L[j - 1]? = some y ∧ 0 ≤ y ∧ y < i := by
  obtain ⟨A, B, rfl, ha, hp, _⟩ := h.ex
  obtain ⟨y, hy⟩ : ∃ y, A[j - 1]? = some y := ⟨_, List.getElem?_eq_getElem (by omega)⟩
  refine ⟨y, by rw [List.getElem?_append_left (by omega)]; exact hy, ?_⟩
  exact mem_idxs.1 (hp.mem_iff.1 (List.mem_append_left _ (List.mem_of_getElem? hy)))
theorem InsI.down (h : InsI c n i j L) (hj : 0 < j) (hy : L[j - 1]? = some y) (hc : c y < c i) : InsI c n i (j - 1) ((L.set j y).set (j - 1) i) := by
  obtain ⟨A, B, rfl, ha, hp, hs, hb⟩ := h.ex
  have hne : A ≠ [] := fun e => by rw [e] at ha; simp at ha; omega
  obtain ⟨A', z, rfl⟩ : ∃ A' z, A = A' ++ [z] := ⟨A.dropLast, A.getLast hne, (List.dropLast_concat_getLast hne).symm⟩
  rw [List.length_append, List.length_singleton] at ha
  have hz : y = z := by
    rw [List.getElem?_append_left (by simp; omega), List.getElem?_append_right (by omega)] at hy
    have : j - 1 - A'.length = 0 := by omega
    rw [this] at hy; simpa using hy.symm
  subst hz
  refine ⟨⟨A', y :: B, ?_, by omega, by simpa [List.append_assoc] using hp, by simpa [List.append_assoc] using hs, fun q hq => ?_⟩, h.lt⟩
  · have e1 : (A' ++ [y] ++ (i : Int) :: (B ++ (idxs n).drop (i + 1))).set j y = A' ++ [y] ++ y :: (B ++ (idxs n).drop (i + 1)) := by
      rw [List.set_append_right _ _ (by simp; omega)]
      have : j - (A' ++ [y]).length = 0 := by simp; omega
      rw [this, List.set_cons_zero]
    rw [e1, List.append_assoc, List.set_append_right _ _ (by omega)]
    have : j - 1 - A'.length = 0 := by omega
    rw [this]; rfl
  rcases List.mem_cons.1 hq with rfl | hq
  · exact .inl hc
  exact hb q hq
theorem InsI.stop (h : InsI c n i j L) (hc : 0 < j → ∀ y, L[j - 1]? = some y → ¬ c y < c i) : InsO c n (i + 1) L := by
  obtain ⟨A, B, rfl, ha, hp, hs, hb⟩ := h.ex
  have hA : ∀ y ∈ A, Fst c y i := by
    intro y hy
    have hlt : ∀ y ∈ A, y < i := fun y hy => (mem_idxs.1 (hp.mem_iff.1 (List.mem_append_left _ hy))).2
    have hne : A ≠ [] := fun e => by rw [e] at hy; cases hy
    obtain ⟨A', z, rfl⟩ : ∃ A' z, A = A' ++ [z] := ⟨A.dropLast, A.getLast hne, (List.dropLast_concat_getLast hne).symm⟩
    rw [List.length_append, List.length_singleton] at ha
    have hz : Fst c z i := by
      have h1 := hc (by omega) z (by
        rw [List.getElem?_append_left (by simp; omega), List.getElem?_append_right (by omega)]
        have : j - 1 - A'.length = 0 := by omega
        rw [this]; rfl)
      have h2 := hlt z (by simp)
      unfold Fst; omega
    rcases List.mem_append.1 hy with hy | hy
    · have hs1 := (List.pairwise_append.1 hs).1
      exact ((List.pairwise_append.1 hs1).2.2 y hy z (by simp)).trans hz
    simp at hy; subst hy; exact hz
  refine ⟨⟨A ++ (i : Int) :: B, by simp, ?_, ?_⟩, h.lt⟩
  · rw [idxs_snoc]
    exact List.perm_middle.trans ((List.Perm.cons _ hp).trans (List.perm_append_singleton _ _).symm)
  rw [List.pairwise_append] at hs ⊢
  refine ⟨hs.1, List.pairwise_cons.2 ⟨hb, hs.2.1⟩, fun a ha' b hb' => ?_⟩
  rcases List.mem_cons.1 hb' with rfl | hb'
  · exact hA a ha'
  exact hs.2.2 a ha' b hb'
theorem InsO.done (h : InsO c n n L) : L.Perm (idxs n) ∧ L.Pairwise (Fst c) := by
  obtain ⟨A, rfl, hp, hs⟩ := h.ex
  have e : (idxs n).drop n = [] := List.drop_eq_nil_of_le (by rw [idxs_len]; exact Nat.le_refl _)
  rw [e, List.append_nil]
  exact ⟨hp, hs⟩
end
end Go.Vk.Deed
namespace Go.Vk.Deed
open Go Go.Vk

/-- What is wrong with parts. -/
def prtE (l : List Int) (fine : Bool) : Int := if 40 < l.length then 2 else if l.all (fun p => rng p 0 1000) = false then 1 else if fine = false then 1 else if sumI l = 0 then 11 else 0
def baseS (total : Int) (l : List Int) : List Int := l.map fun p => total * p / sumI l
def cutS (total : Int) (l : List Int) : List Int := l.map fun p => total * p % sumI l
section
variable {total : Int} {l : List Int} {i : Nat} {a : Int} {fine : Bool}
theorem all_step2 {p : Int → Bool} (h : ∀ x ∈ l.take i, p x = true) (ha : l[i]? = some a) (hp : p a = true) : ∀ x ∈ l.take (i + 1), p x = true := by
  intro x hx
  rw [List.take_add_one, ha] at hx
  rcases List.mem_append.1 hx with g | g
  · exact h x g
  simp at g; subst g; exact hp
theorem sumI_take (ha : l[i]? = some a) : sumI (l.take (i + 1)) = sumI (l.take i) + a := by rw [List.take_add_one, ha]; exact sumI_snoc
theorem sumI_bd_take (h : ∀ x ∈ l.take i, rng x 0 1000 = true) : 0 ≤ sumI (l.take i) ∧ sumI (l.take i) ≤ 1000 * i := by
  have h1 := sumI_bd (l := l.take i) (B := 1000) fun x hx => rng_iff.1 (h x hx)
  have h2 : ((l.take i).length : Int) ≤ i := by rw [List.length_take]; omega
  omega
theorem prt_len (h : 40 < l.length) : prtE l fine = 2 := by rw [prtE, if_pos h]
theorem prt_bad (h : ¬ 40 < l.length) (ha : l[i]? = some a) (hp : rng a 0 1000 = false) : prtE l fine = 1 := by
  rw [prtE, if_neg h, if_pos]
  rw [List.all_eq_false]
  exact ⟨a, List.mem_of_getElem? ha, by simp [hp]⟩
theorem prt_go (h : ¬ 40 < l.length) (ha : ∀ x ∈ l, rng x 0 1000 = true) : prtE l fine = if fine = false then 1 else if sumI l = 0 then 11 else 0 := by
  rw [prtE, if_neg h, if_neg]
  rw [Bool.not_eq_false, List.all_eq_true]
  exact ha
theorem prt_ok (h : prtE l fine = 0) : l.length ≤ 40 ∧ (∀ x ∈ l, 0 ≤ x ∧ x ≤ 1000) ∧ fine = true ∧ 0 < sumI l ∧ sumI l ≤ 40000 := by
  unfold prtE at h
  split at h
  · cases h
  split at h
  · cases h
  split at h
  · cases h
  split at h
  · cases h
  next h1 h2 h3 h4 =>
  rw [Bool.not_eq_false, List.all_eq_true] at h2
  have h5 := sumI_bd (l := l) (B := 1000) fun x hx => rng_iff.1 (h2 x hx)
  refine ⟨by omega, fun x hx => rng_iff.1 (h2 x hx), by simpa using h3, by omega, ?_⟩
  have : (l.length : Int) ≤ 40 := by omega
  omega
/-- The rounded parts leave less than one each. -/
theorem left_aux (hs : 0 < a) : ∀ {l : List Int}, (∀ x ∈ l, 0 ≤ x) → total * sumI l = a * sumI (l.map fun p => total * p / a) + sumI (l.map fun p => total * p % a) := by
  intro l
  induction l with
  | nil => intro _; simp [sumI]
  | cons x l ih =>
    intro h
    have h1 := ih fun y hy => h y (List.mem_cons_of_mem _ hy)
    have h2 := Int.mul_ediv_add_emod (total * x) a
    rw [sumI_cons, List.map_cons, List.map_cons, sumI_cons, sumI_cons, Int.mul_add, Int.mul_add, h1]
    omega
theorem cuts_bd (hs : 0 < a) (hl : l ≠ []) : 0 ≤ sumI (l.map fun p => total * p % a) ∧ sumI (l.map fun p => total * p % a) < a * l.length := by
  have h1 := sumI_bd (l := l.map fun p => total * p % a) (B := a - 1) fun z hz => by
    obtain ⟨y, _, rfl⟩ := List.mem_map.1 hz
    have := Int.emod_nonneg (total * y) (by omega : a ≠ 0)
    have := Int.emod_lt_of_pos (total * y) hs
    omega
  rw [List.length_map] at h1
  have h2 : 0 < (l.length : Int) := by have := List.length_pos_iff.2 hl; omega
  rw [Int.sub_mul, Int.one_mul] at h1
  omega
theorem left_bd (hl : ∀ x ∈ l, 0 ≤ x) (hs : 0 < sumI l) : 0 ≤ total - sumI (baseS total l) ∧ total - sumI (baseS total l) < l.length := by
  have hne : l ≠ [] := fun e => by subst e; simp [sumI] at hs
  have h1 := left_aux (total := total) hs hl
  have h2 := cuts_bd (total := total) hs hne
  generalize sumI (l.map fun p => total * p % sumI l) = q at *
  change total * sumI l = sumI l * sumI (baseS total l) + q at h1
  generalize sumI (baseS total l) = b at *
  generalize sumI l = s at *
  have h3 : s * (total - b) = q := by rw [Int.mul_sub, Int.mul_comm s total]; omega
  generalize (l.length : Int) = m at *
  constructor
  · exact Int.nonneg_of_mul_nonneg_right (by omega : 0 ≤ s * (total - b)) hs |> fun h => h
  refine Int.lt_of_mul_lt_mul_left (a := s) ?_ (by omega)
  omega
end
end Go.Vk.Deed
namespace Go.Vk.Deed
open Go Go.Vk

/-- One more for each of these. -/
def bumps (o : List Int) (M : List Int) : List Int := M.foldl (fun o x => o.set x.toNat (o.getD x.toNat 0 + 1)) o
section
variable {o M : List Int} {x : Int} {i : Nat}
theorem bumps_snoc : bumps o (M ++ [x]) = (bumps o M).set x.toNat ((bumps o M).getD x.toNat 0 + 1) := by simp [bumps, List.foldl_append]
theorem bumps_len : ∀ (M o : List Int), (bumps o M).length = o.length := by
  intro M
  induction M with
  | nil => intro o; rfl
  | cons x M ih => intro o; show (bumps _ M).length = _; rw [ih, List.length_set]
theorem bumps_get : ∀ (M o : List Int), (∀ x ∈ M, 0 ≤ x ∧ x < o.length) → M.Nodup → ∀ i : Nat, (bumps o M).getD i 0 = o.getD i 0 + if (i : Int) ∈ M then 1 else 0 := by
  intro M
  induction M with
  | nil => intro o _ _ i; simp [bumps]
  | cons x M ih =>
    intro o h hn i
    have hx := h x (List.mem_cons_self ..)
    rw [List.nodup_cons] at hn
    show (bumps (o.set x.toNat _) M).getD i 0 = _
    rw [ih _ (fun y hy => by rw [List.length_set]; exact h y (List.mem_cons_of_mem _ hy)) hn.2]
    have e1 : (o.set x.toNat (o.getD x.toNat 0 + 1)).getD i 0 = if x.toNat = i then o.getD x.toNat 0 + 1 else o.getD i 0 := by
      simp only [List.getD_eq_getElem?_getD, List.getElem?_set]
      by_cases e : x.toNat = i
      · rw [if_pos e, if_pos e, if_pos (by omega)]; rfl
      rw [if_neg e, if_neg e]
    rw [e1]
    by_cases e : x.toNat = i
    · have ex : (i : Int) = x := by omega
      rw [if_pos e, ex, if_neg hn.1, if_pos (List.mem_cons_self ..), e]; omega
    have ex : ¬ (i : Int) = x := by omega
    rw [if_neg e]
    simp [ex]
end
section
variable {c : Int → Int} {L : List Int} {n p : Nat} {x : Int}
/-- How many come before. -/
theorem pos_count : ∀ {L : List Int} {p : Nat}, L.Pairwise (Fst c) → L[p]? = some x → (L.filter fun y => decide (c y > c x ∨ (c y = c x ∧ y < x))).length = p := by
  intro L
  induction L with
  | nil => intro p _ h; simp at h
  | cons y L ih =>
    intro p hs hp
    rw [List.pairwise_cons] at hs
    cases p with
    | zero =>
      simp at hp; subst hp
      rw [List.length_eq_zero_iff, List.filter_eq_nil_iff]
      intro z hz
      simp only [decide_eq_true_eq]
      rcases List.mem_cons.1 hz with rfl | hz
      · omega
      have := hs.1 z hz; unfold Fst at this; omega
    | succ p =>
      simp at hp
      have hx : Fst c y x := hs.1 x (List.mem_of_getElem? hp)
      have h1 := ih hs.2 hp
      rw [List.filter_cons, if_pos (by simp only [decide_eq_true_eq]; unfold Fst at hx; omega), List.length_cons, h1]
theorem cuts_count {cuts : List Int} {i : Nat} (hc : ∀ j : Nat, c j = cuts.getD j 0) : ((idxs cuts.length).filter fun y => decide (c y > c i ∨ (c y = c i ∧ y < (i : Int)))).length = cutsAbove cuts i := by
  rw [idxs, List.filter_map, List.length_map, cutsAbove]
  congr 1
  apply List.filter_congr
  intro j _
  simp only [Function.comp, hc]
  apply decide_eq_decide.2
  omega
/-- Which of them get one more. -/
theorem take_iff {cuts : List Int} (hc : ∀ j : Nat, c j = cuts.getD j 0) (hp : L.Perm (idxs cuts.length)) (hs : L.Pairwise (Fst c)) {k i : Nat} (hi : i < cuts.length) : (i : Int) ∈ L.take k ↔ cutsAbove cuts i < k := by
  have hm : (i : Int) ∈ L := hp.mem_iff.2 (mem_idxs.2 (by omega))
  obtain ⟨p, hpi⟩ := List.getElem?_of_mem hm
  have h1 := pos_count hs hpi
  have h2 : (L.filter fun y => decide (c y > c i ∨ (c y = c i ∧ y < (i : Int)))).length = cutsAbove cuts i := by
    rw [(hp.filter _).length_eq]; exact cuts_count hc
  have e : cutsAbove cuts i = p := by rw [← h2]; exact h1
  rw [e]
  constructor
  · intro h
    obtain ⟨q, hq⟩ := List.getElem?_of_mem h
    rw [List.getElem?_take] at hq
    split at hq
    · next hqk =>
      have hnd : L.Nodup := hs.imp fun {a b} h => by unfold Fst at h; intro e; subst e; omega
      obtain ⟨g1, g2⟩ := List.getElem?_eq_some_iff.1 hq
      obtain ⟨g3, g4⟩ := List.getElem?_eq_some_iff.1 hpi
      have hpw := List.pairwise_iff_getElem.1 hnd
      rcases Nat.lt_trichotomy q p with g | g | g
      · exact absurd (g2.trans g4.symm) (hpw q p g1 g3 g)
      · omega
      exact absurd (g4.trans g2.symm) (hpw p q g3 g1 g)
    cases hq
  intro h
  exact List.mem_of_getElem? (by rw [List.getElem?_take, if_pos h]; exact hpi)
theorem whole_of {total : Int} {l : List Int} (hc : ∀ j : Nat, c j = (cutS total l).getD j 0) (hp : L.Perm (idxs l.length)) (hs : L.Pairwise (Fst c)) (hl : 0 ≤ total - sumI (baseS total l)) :
    bumps (baseS total l) (L.take (total - sumI (baseS total l)).toNat) = wholeS total l := by
  have hlc : (cutS total l).length = l.length := by simp [cutS]
  have hlb : (baseS total l).length = l.length := by simp [baseS]
  have hnd : L.Nodup := hs.imp fun {a b} h => by unfold Fst at h; intro e; subst e; omega
  apply List.ext_getElem?
  intro i
  by_cases hi : i < l.length
  · have h1 := bumps_get (L.take (total - sumI (baseS total l)).toNat) (baseS total l) (fun x hx => by
      have := mem_idxs.1 (hp.mem_iff.1 (List.mem_of_mem_take hx)); rw [hlb]; exact this) (hnd.sublist (List.take_sublist ..)) i
    have hbl : i < (bumps (baseS total l) (L.take (total - sumI (baseS total l)).toNat)).length := by rw [bumps_len, hlb]; exact hi
    have e1 : (bumps (baseS total l) (L.take (total - sumI (baseS total l)).toNat))[i]? = some ((bumps (baseS total l) (L.take (total - sumI (baseS total l)).toNat)).getD i 0) := by
      rw [List.getD_eq_getElem?_getD, List.getElem?_eq_getElem hbl]; rfl
    rw [e1, h1]
    have hit := take_iff (k := (total - sumI (baseS total l)).toNat) hc (by rw [hlc]; exact hp) hs (by rw [hlc]; exact hi)
    unfold wholeS
    simp only []
    rw [List.getElem?_map, List.getElem?_range hi, Option.map_some]
    congr 1
    congr 1
    show (if (i : Int) ∈ L.take (total - sumI (baseS total l)).toNat then (1 : Int) else 0) = if ((cutsAbove (cutS total l) i : Nat) : Int) < total - sumI (baseS total l) then 1 else 0
    by_cases h : (i : Int) ∈ L.take (total - sumI (baseS total l)).toNat
    · rw [if_pos h, if_pos (by have := hit.1 h; omega)]
    rw [if_neg h, if_neg (fun g => h (hit.2 (by omega)))]
  rw [List.getElem?_eq_none (by rw [bumps_len, hlb]; omega), List.getElem?_eq_none (by simp [wholeS]; omega)]
end
section
variable {t a s : Int} {l L o M : List Int} {i k : Nat}
theorem mul_bd (ht : 0 ≤ t ∧ t ≤ 1000000000) (ha : 0 ≤ a ∧ a ≤ 1000) : 0 ≤ t * a ∧ t * a ≤ 1000000000000 := by
  refine ⟨Int.mul_nonneg ht.1 ha.1, ?_⟩
  have h1 : t * a ≤ t * 1000 := Int.mul_le_mul_of_nonneg_left ha.2 ht.1
  omega
theorem div_bd (hm : 0 ≤ a ∧ a ≤ 1000000000000) (hs : 0 < s) : 0 ≤ a / s ∧ a / s ≤ 1000000000000 := ⟨Int.ediv_nonneg hm.1 (by omega), Int.le_trans (Int.ediv_le_self _ hm.1) hm.2⟩
theorem base_mem (ht : 0 ≤ t ∧ t ≤ 1000000000) (hl : ∀ x ∈ l, 0 ≤ x ∧ x ≤ 1000) (hs : 0 < sumI l) : ∀ y ∈ baseS t l, 0 ≤ y ∧ y ≤ 1000000000000 := fun y hy => by
  obtain ⟨x, hx, rfl⟩ := List.mem_map.1 hy
  exact div_bd (mul_bd ht (hl x hx)) hs
theorem base_bd (ht : 0 ≤ t ∧ t ≤ 1000000000) (hl : ∀ x ∈ l, 0 ≤ x ∧ x ≤ 1000) (hs : 0 < sumI l) (i : Nat) : 0 ≤ sumI ((baseS t l).take i) ∧ sumI ((baseS t l).take i) ≤ 1000000000000 * l.length := by
  have h1 := sumI_bd (l := (baseS t l).take i) (B := 1000000000000) fun x hx => base_mem ht hl hs x (List.mem_of_mem_take hx)
  rw [List.length_take] at h1
  have h2 : (baseS t l).length = l.length := by simp [baseS]
  rw [h2] at h1
  have : ((min i l.length : Nat) : Int) ≤ l.length := by omega
  omega
theorem bump_get (hi : i < o.length) : (bumps o M)[i]? = some ((bumps o M).getD i 0) := by
  rw [List.getD_eq_getElem?_getD, List.getElem?_eq_getElem (by rw [bumps_len]; exact hi)]; rfl
theorem bump_bd {c : Int → Int} (ht : 0 ≤ t ∧ t ≤ 1000000000) (hl : ∀ x ∈ l, 0 ≤ x ∧ x ≤ 1000) (hs : 0 < sumI l) (hp : L.Perm (idxs (cutS t l).length)) (hf : L.Pairwise (Fst c)) (hcl : (cutS t l).length = l.length) (j : Nat) :
    0 ≤ (bumps (baseS t l) ((L.take k).take i)).getD j 0 ∧ (bumps (baseS t l) ((L.take k).take i)).getD j 0 ≤ 1000000000001 := by
  have hnd : L.Nodup := hf.imp fun {a b} h => by unfold Fst at h; intro e; subst e; omega
  have hlb : (baseS t l).length = l.length := by simp [baseS]
  rw [bumps_get _ _ (fun x hx => by
    have := mem_idxs.1 (hp.mem_iff.1 (List.mem_of_mem_take (List.mem_of_mem_take hx))); rw [hlb, ← hcl]; exact this) (hnd.sublist ((List.take_sublist ..).trans (List.take_sublist ..))) j]
  have h1 : 0 ≤ (baseS t l).getD j 0 ∧ (baseS t l).getD j 0 ≤ 1000000000000 := by
    rw [List.getD_eq_getElem?_getD]
    cases h : (baseS t l)[j]? with
    | none => simp
    | some y => exact base_mem ht hl hs y (List.mem_of_getElem? h)
  split <;> omega
end
theorem mem_le_sum : ∀ {l : List Int}, (∀ x ∈ l, 0 ≤ x) → ∀ x ∈ l, x ≤ sumI l := by
  intro l
  induction l with
  | nil => intro _ x h; cases h
  | cons y l ih =>
    intro h x hx
    have h0 : 0 ≤ sumI l := by
      have : ∀ {l : List Int}, (∀ x ∈ l, 0 ≤ x) → 0 ≤ sumI l := by
        intro l
        induction l with
        | nil => intro _; simp [sumI]
        | cons z l ih => intro h; rw [sumI_cons]; have := h z (List.mem_cons_self ..); have := ih fun q hq => h q (List.mem_cons_of_mem _ hq); omega
      exact this fun q hq => h q (List.mem_cons_of_mem _ hq)
    have hy := h y (List.mem_cons_self ..)
    rw [sumI_cons]
    rcases List.mem_cons.1 hx with rfl | hx
    · omega
    have := ih (fun q hq => h q (List.mem_cons_of_mem _ hq)) x hx; omega
theorem whole_len {t : Int} {l : List Int} : (wholeS t l).length = l.length := by simp [wholeS]
theorem whole_bd {t : Int} {l : List Int} (ht : 0 ≤ t ∧ t ≤ 1000000000) (hl : ∀ x ∈ l, 0 ≤ x) (hs : 0 < sumI l) {i : Nat} {y : Int} (hy : (wholeS t l)[i]? = some y) : 0 ≤ y ∧ y ≤ 2000000000 := by
  have hi := (List.getElem?_eq_some_iff.1 hy).1
  rw [whole_len] at hi
  have e : (wholeS t l)[i]? = some ((baseS t l).getD i 0 + if (cutsAbove (cutS t l) i : Int) < t - sumI (baseS t l) then 1 else 0) := by
    unfold wholeS
    simp only []
    rw [List.getElem?_map, List.getElem?_range hi, Option.map_some]
    rfl
  rw [e] at hy
  have hb : 0 ≤ (baseS t l).getD i 0 ∧ (baseS t l).getD i 0 ≤ 1000000000 := by
    have hg : (baseS t l)[i]? = some (t * l[i] / sumI l) := by simp [baseS, List.getElem?_eq_getElem hi]
    rw [List.getD_eq_getElem?_getD, hg, Option.getD_some]
    have h1 := hl l[i] (List.getElem_mem hi)
    have h2 := mem_le_sum hl l[i] (List.getElem_mem hi)
    refine ⟨Int.ediv_nonneg (Int.mul_nonneg ht.1 h1) (by omega), ?_⟩
    have h3 : t * l[i] ≤ t * sumI l := Int.mul_le_mul_of_nonneg_left h2 ht.1
    have h4 : t * l[i] / sumI l ≤ t * sumI l / sumI l := Int.ediv_le_ediv hs h3
    rw [Int.mul_ediv_cancel _ (by omega)] at h4
    omega
  have hy' := Option.some.inj hy
  rw [← hy']
  split <;> omega
theorem moves_step {a : Int} {hs ks : List Int} {s : St} {i : Nat} {h k : Int} (hh : hs[i]? = some h) (hk : ks[i]? = some k) : movesS a (hs.take (i + 1)) (ks.take (i + 1)) s = moveS (movesS a (hs.take i) (ks.take i) s) a h k := by
  have key : ∀ (xs ys : List Int) (s : St), xs.length = ys.length → movesS a (xs ++ [h]) (ys ++ [k]) s = moveS (movesS a xs ys s) a h k := by
    intro xs
    induction xs with
    | nil => intro ys s hl; cases ys with
      | nil => rfl
      | cons y ys => simp at hl
    | cons x xs ih => intro ys s hl; cases ys with
      | nil => simp at hl
      | cons y ys => exact ih ys _ (by simpa using hl)
  rw [List.take_add_one, List.take_add_one, hh, hk]
  have h1 := (List.getElem?_eq_some_iff.1 hh).1
  have h2 := (List.getElem?_eq_some_iff.1 hk).1
  exact key _ _ _ (by rw [List.length_take, List.length_take]; omega)
theorem heirs_facts {x : D} (h : heirsB x = true) : (1 ≤ x.heirs.length ∧ x.heirs.length ≤ 10) ∧ x.shares.length = x.heirs.length ∧ (1 ≤ x.frm ∧ x.frm ≤ 40) ∧ (∀ y ∈ x.heirs, 1 ≤ y ∧ y ≤ 40) ∧ (∀ y ∈ x.shares, 1 ≤ y ∧ y ≤ 1000) := by
  unfold heirsB at h
  simp only [Bool.and_eq_true, decide_eq_true_eq, List.all_eq_true] at h
  obtain ⟨⟨⟨⟨⟨g1, g2⟩, g3⟩, g4⟩, g5⟩, _⟩ := h
  exact ⟨g1, g2, own_iff.1 g3, fun y hy => own_iff.1 (g4 y hy), fun y hy => rng_iff.1 (g5 y hy)⟩
theorem sum_pos {l : List Int} (h : ∀ y ∈ l, 1 ≤ y ∧ y ≤ 1000) (hl : 1 ≤ l.length) : 0 < sumI l := by
  obtain ⟨y, hy⟩ : ∃ y, l[0]? = some y := ⟨_, List.getElem?_eq_getElem (by omega)⟩
  have h1 := mem_le_sum (fun x hx => by have := h x hx; omega) y (List.mem_of_getElem? hy)
  have := h y (List.mem_of_getElem? hy)
  omega
theorem prt_fine {l : List Int} {t : Int} (h : ∀ y ∈ l, 1 ≤ y ∧ y ≤ 1000) (hl : 1 ≤ l.length ∧ l.length ≤ 10) (ht : 0 ≤ t ∧ t ≤ 1000000000) : prtE l (rng t 0 1000000000) = 0 := by
  have := sum_pos h hl.1
  rw [prt_go (by omega) fun x hx => rng_iff.2 (by have := h x hx; omega), if_neg (by simp [rng, ht]), if_neg (by omega)]
end Go.Vk.Deed

/- Deeds, as plain mathematics, part 7: what has been done is in balance. No program in sight. -/
namespace Go.Vk.Deed
open Go Go.Vk

/-! ### sums of functions that change at one place -/
theorem sum_bump {l : List Int} {f : Int → Int} {j n : Int} (hn : l.Nodup) (hj : j ∈ l) : sumI (l.map fun i => f i + if i = j then n else 0) = sumI (l.map f) + n := by
  induction l with
  | nil => cases hj
  | cons x l ih =>
    rw [List.nodup_cons] at hn
    rw [List.map_cons, List.map_cons, sumI_cons, sumI_cons]
    rcases List.mem_cons.1 hj with rfl | hj
    · have e : l.map (fun i => f i + if i = j then n else 0) = l.map f := List.map_congr_left fun i hi => by
        have : i ≠ j := fun h => hn.1 (h ▸ hi)
        rw [if_neg this]; omega
      rw [e, if_pos rfl]; omega
    have hx : x ≠ j := fun h => hn.1 (h ▸ hj)
    rw [ih hn.2 hj, if_neg hx]; omega
theorem sum_same {l : List Int} {f g : Int → Int} (h : ∀ i ∈ l, f i = g i) : sumI (l.map f) = sumI (l.map g) := congrArg sumI (List.map_congr_left h)
theorem sum_zero {l : List Int} {f : Int → Int} (h : ∀ i ∈ l, f i = 0) : sumI (l.map f) = 0 := by
  induction l with
  | nil => rfl
  | cons x l ih => rw [List.map_cons, sumI_cons, h x (List.mem_cons_self ..), ih fun i hi => h i (List.mem_cons_of_mem _ hi)]; rfl
theorem le_sum {l : List Int} {f : Int → Int} (h : ∀ i ∈ l, 0 ≤ f i) {i : Int} (hi : i ∈ l) : f i ≤ sumI (l.map f) :=
  mem_le_sum (fun x hx => by obtain ⟨j, hj, rfl⟩ := List.mem_map.1 hx; exact h j hj) (f i) (List.mem_map.2 ⟨i, hi, rfl⟩)
theorem sum_nn {l : List Int} {f : Int → Int} (h : ∀ i ∈ l, 0 ≤ f i) : 0 ≤ sumI (l.map f) := by
  induction l with
  | nil => simp [sumI]
  | cons x l ih => rw [List.map_cons, sumI_cons]; have := h x (List.mem_cons_self ..); have := ih fun i hi => h i (List.mem_cons_of_mem _ hi); omega
theorem ids_nd : ids.Nodup := ids_asc.imp fun h => by omega
theorem owners_nd : owners.Nodup := by
  rw [owners]
  refine List.Pairwise.map _ ?_ List.pairwise_lt_range
  intro a b h; omega

/-- What is held adds up, by deed and by owner. -/
structure Bal (s : St) (T : Int) : Prop where
  nn : ∀ o i, 0 ≤ s.src o i
  z : ∀ o i, ¬ ((1 ≤ o ∧ o ≤ 40) ∧ (1 ≤ i ∧ i ≤ 400)) → s.src o i = 0
  hs : ∀ o, s.holds o = sumI (ids.map (s.src o))
  tot : sumI (owners.map s.holds) = T
section
variable {s : St} {T o id n a c k : Int}
theorem Bal.nil : Bal St.nil 0 := ⟨fun _ _ => Int.le_refl _, fun _ _ _ => rfl, fun _ => (sum_zero fun _ _ => rfl).symm, sum_zero fun _ _ => rfl⟩
theorem Bal.add (h : Bal s T) (ho : 1 ≤ o ∧ o ≤ 40) (hi : 1 ≤ id ∧ id ≤ 400) (hn : 0 ≤ s.src o id + n) : Bal (addS s o id n) (T + n) := by
  refine ⟨fun o' i' => ?_, fun o' i' hz => ?_, fun o' => ?_, ?_⟩
  · rw [addS_src]
    split
    · next e => rw [e.1, e.2]; exact hn
    have := h.nn o' i'; omega
  · rw [addS_src, h.z o' i' hz, if_neg (fun e => hz (by rw [e.1, e.2]; exact ⟨ho, hi⟩))]; rfl
  · rw [addS_holds, h.hs]
    by_cases e : o' = o
    · subst e
      rw [if_pos rfl, ← sum_bump ids_nd (mem_ids.2 hi)]
      exact sum_same fun i _ => by rw [addS_src]; simp
    rw [if_neg e, Int.add_zero]
    exact sum_same fun i _ => by rw [addS_src, if_neg (fun q => e q.1)]; omega
  rw [← h.tot, ← sum_bump owners_nd (mem_owners.2 ho)]
  exact sum_same fun i _ => addS_holds i
theorem Bal.moveL (ha : 1 ≤ a ∧ a ≤ 40) (hc : 1 ≤ c ∧ c ≤ 40) : ∀ (L : List Int) {k : Int} {s : St}, (∀ z ∈ L, 1 ≤ z ∧ z ≤ 400) → 0 ≤ k → Bal s T → Bal (Deed.moveL a c L k s) T := by
  intro L
  induction L with
  | nil => intro k s _ _ h; exact h
  | cons z L ih =>
    intro k s hL hk h
    rw [Deed.moveL]
    have hz := hL z (List.mem_cons_self ..)
    have h0 := h.nn a z
    refine ih (fun y hy => hL y (List.mem_cons_of_mem _ hy)) (by omega) ?_
    have h1 := h.add (n := -min k (s.src a z)) ha hz (by omega)
    have h2 := h1.add (n := min k (s.src a z)) hc hz (by have := h1.nn c z; omega)
    have e : T + -min k (s.src a z) + min k (s.src a z) = T := by omega
    rwa [e] at h2
theorem Bal.move (h : Bal s T) (ha : 1 ≤ a ∧ a ≤ 40) (hc : 1 ≤ c ∧ c ≤ 40) (hk : 0 ≤ k) : Bal (moveS s a c k) T := Bal.moveL ha hc _ (fun _ hz => (mem_idsS.1 hz).1) hk h
theorem Bal.moves (ha : 1 ≤ a ∧ a ≤ 40) : ∀ (hs ks : List Int) {s : St}, (∀ x ∈ hs, 1 ≤ x ∧ x ≤ 40) → (∀ k ∈ ks, 0 ≤ k) → Bal s T → Bal (movesS a hs ks s) T := by
  intro hs
  induction hs with
  | nil => intro ks s _ _ h; exact h
  | cons x hs ih => intro ks s h1 h2 h; cases ks with
    | nil => exact h
    | cons k ks => exact ih ks (fun y hy => h1 y (List.mem_cons_of_mem _ hy)) (fun y hy => h2 y (List.mem_cons_of_mem _ hy)) (h.move ha (h1 x (List.mem_cons_self ..)) (h2 k (List.mem_cons_self ..)))
theorem moveL_rest (a c : Int) : ∀ (L : List Int) (k : Int) (s : St), (Deed.moveL a c L k s).leases = s.leases ∧ (Deed.moveL a c L k s).pledges = s.pledges ∧ (Deed.moveL a c L k s).idle = s.idle := by
  intro L
  induction L with
  | nil => intro k s; exact ⟨rfl, rfl, rfl⟩
  | cons z L ih => intro k s; rw [Deed.moveL]; exact ih _ _
theorem moveS_rest : (moveS s a c k).leases = s.leases ∧ (moveS s a c k).pledges = s.pledges ∧ (moveS s a c k).idle = s.idle := moveL_rest a c _ _ _
theorem movesS_rest : ∀ (hs ks : List Int) (s : St), (movesS a hs ks s).leases = s.leases ∧ (movesS a hs ks s).pledges = s.pledges ∧ (movesS a hs ks s).idle = s.idle := by
  intro hs
  induction hs with
  | nil => intro ks s; exact ⟨rfl, rfl, rfl⟩
  | cons x hs ih => intro ks s; cases ks with
    | nil => exact ⟨rfl, rfl, rfl⟩
    | cons k ks =>
      have h1 := ih ks (moveS s a x k)
      have h2 := moveS_rest (s := s) (a := a) (c := x) (k := k)
      exact ⟨h1.1.trans h2.1, h1.2.1.trans h2.2.1, h1.2.2.trans h2.2.2⟩
theorem Bal.holds_nn (h : Bal s T) (o : Int) : 0 ≤ s.holds o := by rw [h.hs]; exact sum_nn fun i _ => h.nn o i
theorem Bal.holds_z (h : Bal s T) (ho : ¬ (1 ≤ o ∧ o ≤ 40)) : s.holds o = 0 := by rw [h.hs]; exact sum_zero fun i _ => h.z o i fun e => ho e.1
theorem Bal.holds_le (h : Bal s T) (o : Int) : s.holds o ≤ T := by
  by_cases ho : 1 ≤ o ∧ o ≤ 40
  · rw [← h.tot]; exact le_sum (fun i _ => h.holds_nn i) (mem_owners.2 ho)
  rw [h.holds_z ho, ← h.tot]; exact sum_nn fun i _ => h.holds_nn i
theorem Bal.src_le (h : Bal s T) (o i : Int) : s.src o i ≤ s.holds o := by
  by_cases hi : 1 ≤ i ∧ i ≤ 400
  · rw [h.hs]; exact le_sum (fun j _ => h.nn o j) (mem_ids.2 hi)
  rw [h.z o i fun e => hi e.2]; exact h.holds_nn o
end

/-! ### deeds, one after another -/
def play (l : List D) : St := l.foldl try1 St.nil
theorem play_snoc {l : List D} {x : D} : play (l ++ [x]) = try1 (play l) x := by simp [play, List.foldl_append]
/-- Deeds that can be played. -/
structure PlayL (l : List D) : Prop where
  f : ∀ x ∈ l, formed x = true
  k : ∀ x ∈ l, x.kind ≠ 8
  nd : (l.map (·.id)).Nodup
  e : enters l ≤ 1000000000
  len : l.length ≤ 400
/-- What has been done, by deeds. -/
structure StI (s : St) (l : List D) : Prop where
  bal : Bal s (enters l)
  ll : s.leases.length ≤ l.length
  lp : ∀ x ∈ s.leases, (1 ≤ x.parts ∧ x.parts ≤ 1000000000) ∧ (1 ≤ x.frm ∧ x.frm ≤ 40) ∧ (1 ≤ x.to ∧ x.to ≤ 40) ∧ ∃ y ∈ l, y.kind = 4 ∧ x = ⟨y.id, y.frm, y.to, y.parts, y.stop, y.day⟩
  pl : s.pledges.length ≤ l.length
  pp : ∀ x ∈ s.pledges, (1 ≤ x.parts ∧ x.parts ≤ 1000000000) ∧ (1 ≤ x.frm ∧ x.frm ≤ 40) ∧ (1 ≤ x.to ∧ x.to ≤ 40) ∧ ∃ y ∈ l, y.kind = 5 ∧ x = ⟨y.id, y.frm, y.to, y.parts⟩
  pn : (s.pledges.map (·.deed)).Nodup
  il : s.idle.length ≤ l.length
  is : ∀ i ∈ s.idle, i ∈ l.map (·.id)
section
variable {s : St} {l t : List D} {x y : D}
theorem enters_snoc : enters (l ++ [x]) = enters l + if x.kind = 1 then x.parts else 0 := by
  rw [enters, List.map_append]; exact sumI_snoc
theorem formed_kinds (h : formed x = true) : x.kind = 1 ∨ x.kind = 2 ∨ x.kind = 3 ∨ x.kind = 4 ∨ x.kind = 5 ∨ x.kind = 6 ∨ x.kind = 7 ∨ x.kind = 8 := by
  refine Classical.byContradiction fun hn => ?_
  simp only [not_or] at hn
  have := formed0 (x := x) hn.1 hn.2.1 hn.2.2.1 hn.2.2.2.1 hn.2.2.2.2.1 hn.2.2.2.2.2.1 hn.2.2.2.2.2.2.1 hn.2.2.2.2.2.2.2
  rw [h] at this; cases this
theorem StI.nil : StI St.nil [] := ⟨Bal.nil, Nat.le_refl _, by simp [St.nil], Nat.le_refl _, by simp [St.nil], by simp [St.nil], Nat.le_refl _, by simp [St.nil]⟩
theorem StI.weak (h : StI s l) (hx : x.kind ≠ 1) : StI s (l ++ [x]) :=
  ⟨by rw [enters_snoc, if_neg hx, Int.add_zero]; exact h.bal, by have := h.ll; simp; omega, fun y hy => let ⟨h1, h2, h3, z, hz, h4⟩ := h.lp y hy; ⟨h1, h2, h3, z, List.mem_append_left _ hz, h4⟩, by have := h.pl; simp; omega,
   fun y hy => let ⟨h1, h2, h3, z, hz, h4⟩ := h.pp y hy; ⟨h1, h2, h3, z, List.mem_append_left _ hz, h4⟩, h.pn, by have := h.il; simp; omega, fun i hi => by rw [List.map_append]; exact List.mem_append_left _ (h.is i hi)⟩
theorem StI.bl {s' : St} (h : StI s l) (hb : Bal s' (enters l)) (e : s'.leases = s.leases ∧ s'.pledges = s.pledges ∧ s'.idle = s.idle) : StI s' l :=
  ⟨hb, by rw [e.1]; exact h.ll, by rw [e.1]; exact h.lp, by rw [e.2.1]; exact h.pl, by rw [e.2.1]; exact h.pp, by rw [e.2.1]; exact h.pn, by rw [e.2.2]; exact h.il, by rw [e.2.2]; exact h.is⟩
theorem StI.stb (h : StI s l) (he : enters l ≤ 1000000000) (hl : l.length ≤ 400) : StB s :=
  ⟨by have := h.ll; omega, fun x hx => by have := (h.lp x hx).1; omega, by have := h.pl; omega, fun x hx => by have := (h.pp x hx).1; omega, fun x hx => ⟨(h.pp x hx).2.1, (h.pp x hx).2.2.1⟩, h.pn,
   fun o i => ⟨h.bal.nn o i, by have := h.bal.src_le o i; have := h.bal.holds_le o; omega⟩, fun o => ⟨h.bal.holds_nn o, by have := h.bal.holds_le o; omega⟩⟩
theorem StI.new (h : StI s l) (hn : x.id ∉ l.map (·.id)) : ∀ p ∈ s.pledges, p.deed ≠ x.id := fun p hp e => by
  obtain ⟨_, _, _, y, hy, _, rfl⟩ := h.pp p hp
  exact hn (e ▸ List.mem_map.2 ⟨y, hy, rfl⟩)
/-- Parts go to heirs. -/
theorem StI.heirs (h : StI s l) (he : enters l ≤ 1000000000) (hl : l.length ≤ 400) (hf : formed x = true) (hk : x.kind = 3) (hp : 0 < free s x.frm x.day) (i : Nat) :
    StI (movesS x.frm (x.heirs.take i) ((wholeS (free s x.frm x.day) x.shares).take i) s) l := by
  have hh := heirs_facts (formed_heirs hf hk)
  have hB := h.stb he hl
  have h1 := hB.outS (o := x.frm) (day := x.day)
  have h2 := hB.pledged (o := x.frm)
  have h3 := hB.hb x.frm
  have hfr : free s x.frm x.day ≤ 1000000000 := by unfold free; omega
  refine h.bl (Bal.moves hh.2.2.1 _ _ (fun y hy => hh.2.2.2.1 y (List.mem_of_mem_take hy)) (fun k hk' => ?_) h.bal) (movesS_rest _ _ _)
  obtain ⟨j, hj⟩ := List.getElem?_of_mem (List.mem_of_mem_take hk')
  exact (whole_bd (by omega) (fun z hz => by have := hh.2.2.2.2 z hz; omega) (sum_pos hh.2.2.2.2 (by omega)) hj).1
theorem StI.redeem (h : StI s l) (id : Int) : StI (redeemS s id) l := by
  have hsub : ∀ p ∈ (redeemS s id).pledges, p ∈ s.pledges := fun p hp => (List.mem_filter.1 hp).1
  exact ⟨⟨h.bal.nn, h.bal.z, h.bal.hs, h.bal.tot⟩, h.ll, h.lp, Nat.le_trans (List.length_filter_le _ _) h.pl, fun p hp => h.pp p (hsub p hp), h.pn.sublist (List.filter_sublist.map _), h.il, h.is⟩
/-- One deed more. -/
theorem StI.step (h : StI s l) (he : enters l ≤ 1000000000) (hl : l.length ≤ 400) (hf : formed x = true) (hk : x.kind ≠ 8) (hn : x.id ∉ l.map (·.id)) : StI (try1 s x) (l ++ [x]) := by
  have hidle : x.kind ≠ 1 → StI (idleS s x.id) (l ++ [x]) := fun hx => by
    have h1 := h.weak hx
    exact ⟨⟨h1.bal.nn, h1.bal.z, h1.bal.hs, h1.bal.tot⟩, h1.ll, h1.lp, h1.pl, h1.pp, h1.pn, by have := h.il; simp [idleS]; omega, fun i hi => by
      rcases List.mem_append.1 hi with hi | hi
      · exact h1.is i hi
      simp at hi; subst hi; simp⟩
  rcases formed_kinds hf with k | k | k | k | k | k | k | k
  · rw [try_some (do_enter k)]
    have hq := formed_ent hf k
    have hi := formed_id hf
    have h1 := h.bal.add (o := x.to) (id := x.id) (n := x.parts) hq.1 hi.1 (by have := h.bal.nn x.to x.id; omega)
    refine ⟨by rw [enters_snoc, if_pos k]; exact h1, ?_, ?_, ?_, ?_, h.pn, ?_, ?_⟩
    · have := h.ll; simp [addS]; omega
    · intro y hy; obtain ⟨h1, h2, h3, z, hz, h4⟩ := h.lp y hy; exact ⟨h1, h2, h3, z, List.mem_append_left _ hz, h4⟩
    · have := h.pl; simp [addS]; omega
    · intro y hy; obtain ⟨h1, h2, h3, z, hz, h4⟩ := h.pp y hy; exact ⟨h1, h2, h3, z, List.mem_append_left _ hz, h4⟩
    · have := h.il; simp [addS]; omega
    intro i hi; rw [List.map_append]; exact List.mem_append_left _ (h.is i hi)
  · have hq := formed_two hf (.inl k)
    by_cases hp : x.parts ≤ free s x.frm x.day
    · rw [try_some (do_grant k hp)]
      exact (h.bl (h.bal.move hq.1 hq.2.1 (by omega)) moveS_rest).weak (by omega)
    rw [try_none (do_grant0 k hp)]; exact hidle (by omega)
  · by_cases hp : 0 < free s x.frm x.day
    · rw [try_some (do_heirs k hp)]
      have hh := heirs_facts (formed_heirs hf k)
      have h1 := h.heirs he hl hf k hp x.heirs.length
      rw [List.take_length, List.take_of_length_le (by rw [whole_len]; omega)] at h1
      exact h1.weak (by omega)
    rw [try_none (do_heirs0 k hp)]; exact hidle (by omega)
  · have hq := formed_two hf (.inr (.inl k))
    by_cases hp : x.parts ≤ free s x.frm x.day
    · rw [try_some (do_lease k hp)]
      have h1 := h.weak (x := x) (by omega)
      refine ⟨⟨h1.bal.nn, h1.bal.z, h1.bal.hs, h1.bal.tot⟩, by have := h.ll; simp [leaseS]; omega, fun y hy => ?_, h1.pl, h1.pp, h1.pn, h1.il, h1.is⟩
      rcases List.mem_append.1 hy with hy | hy
      · exact h1.lp y hy
      simp at hy; subst hy; exact ⟨hq.2.2.2, hq.1, hq.2.1, x, by simp, k, rfl⟩
    rw [try_none (do_lease0 k hp)]; exact hidle (by omega)
  · have hq := formed_two hf (.inr (.inr k))
    by_cases hp : x.parts ≤ free s x.frm x.day
    · rw [try_some (do_pledge k hp)]
      have h1 := h.weak (x := x) (by omega)
      refine ⟨⟨h1.bal.nn, h1.bal.z, h1.bal.hs, h1.bal.tot⟩, h1.ll, h1.lp, by have := h.pl; simp [pledgeS]; omega, fun y hy => ?_, ?_, h1.il, h1.is⟩
      · rcases List.mem_append.1 hy with hy | hy
        · exact h1.pp y hy
        simp at hy; subst hy; exact ⟨hq.2.2.2, hq.1, hq.2.1, x, by simp, k, rfl⟩
      simp only [pledgeS, List.map_append]
      refine List.nodup_append.2 ⟨h.pn, by simp, fun a ha b hb => ?_⟩
      obtain ⟨p, hp', rfl⟩ := List.mem_map.1 ha
      simp at hb; subst hb
      exact h.new hn p hp'
    rw [try_none (do_pledge0 k hp)]; exact hidle (by omega)
  · cases hp : plOf s x.of with
    | some p => rw [try_some (do_redeem k hp)]; exact (h.redeem _).weak (by omega)
    | none => rw [try_none (do_redeem0 k hp)]; exact hidle (by omega)
  · cases hp : plOf s x.of with
    | some p =>
      rw [try_some (do_seize k hp)]
      have hpp := h.pp p (plOf_mem hp).1
      exact ((h.redeem x.of).bl ((h.redeem x.of).bal.move hpp.2.1 hpp.2.2.1 (by omega)) moveS_rest).weak (by omega)
    | none => rw [try_none (do_seize0 k hp)]; exact hidle (by omega)
  exact absurd k hk
theorem PlayL.pre (h : PlayL (t ++ l)) : PlayL t := by
  refine ⟨fun x hx => h.f x (List.mem_append_left _ hx), fun x hx => h.k x (List.mem_append_left _ hx), ?_, ?_, ?_⟩
  · have := h.nd; rw [List.map_append] at this; exact (List.nodup_append.1 this).1
  · have h1 := h.e
    have h2 : enters (t ++ l) = enters t + enters l := by
      have : ∀ (l t : List D), enters (t ++ l) = enters t + enters l := by
        intro l
        induction l with
        | nil => intro t; simp [enters, sumI]
        | cons x l ih =>
          intro t
          have e1 : t ++ x :: l = (t ++ [x]) ++ l := by simp
          rw [e1, ih, enters_snoc]
          have e2 : enters (x :: l) = (if x.kind = 1 then x.parts else 0) + enters l := by rw [enters, List.map_cons, sumI_cons]; rfl
          rw [e2]; omega
      exact this l t
    have h3 := (enters_bd (l := l) fun y hy => h.f y (List.mem_append_right _ hy)).1
    omega
  have := h.len; rw [List.length_append] at this; omega
theorem play_inv : ∀ (n : Nat) {l : List D}, l.length = n → PlayL l → StI (play l) l := by
  intro n
  induction n with
  | zero =>
    intro l hl _
    obtain rfl := List.length_eq_zero_iff.1 hl
    exact StI.nil
  | succ n ih =>
    intro l hl h
    have hne : l ≠ [] := fun e => by subst e; simp at hl
    obtain ⟨t, x, rfl⟩ : ∃ t x, l = t ++ [x] := ⟨l.dropLast, l.getLast hne, (List.dropLast_concat_getLast hne).symm⟩
    have ht := h.pre
    have h1 := ih (by simpa using hl) ht
    rw [play_snoc]
    have hnd := h.nd
    rw [List.map_append, List.nodup_append] at hnd
    exact h1.step ht.e ht.len (h.f x (by simp)) (h.k x (by simp)) fun hm => hnd.2.2 x.id hm x.id (by simp) rfl
/-- All that a walk through deeds asks. -/
structure PlayOk (t : List D) (a : D) : Prop where
  f : formed a = true
  k : a.kind = 1 ∨ a.kind = 2 ∨ a.kind = 3 ∨ a.kind = 4 ∨ a.kind = 5 ∨ a.kind = 6 ∨ a.kind = 7
  b : StB (play t)
  il : (play t).idle.length ≤ 1000
  nw : ∀ p ∈ (play t).pledges, p.deed ≠ a.id
  m : a.kind = 3 → 0 < free (play t) a.frm a.day → ∀ i, StB (movesS a.frm (a.heirs.take i) ((wholeS (free (play t) a.frm a.day) a.shares).take i) (play t))
theorem PlayL.at {a : D} {r : List D} (h : PlayL (t ++ a :: r)) : PlayOk t a := by
  have e : t ++ a :: r = (t ++ [a]) ++ r := by simp
  have h1 := h.pre
  have hI := play_inv _ rfl h1
  have hnd := h.nd
  rw [List.map_append, List.map_cons, List.nodup_append] at hnd
  have hk := formed_kinds (h.f a (by simp))
  have hk8 := h.k a (by simp)
  exact ⟨h.f a (by simp), by omega, hI.stb h1.e h1.len, by have := hI.il; have := h1.len; omega, hI.new fun hm => hnd.2.2 a.id hm a.id (by simp) rfl,
    fun k hp i => (hI.heirs h1.e h1.len (h.f a (by simp)) k hp i).stb h1.e h1.len⟩
theorem PlayL.filter (h : PlayL l) (p : D → Bool) : PlayL (l.filter p) := by
  refine ⟨fun x hx => h.f x (List.mem_filter.1 hx).1, fun x hx => h.k x (List.mem_filter.1 hx).1, h.nd.sublist (List.filter_sublist.map _), ?_, Nat.le_trans (List.length_filter_le _ _) h.len⟩
  have : enters (l.filter p) ≤ enters l := by
    have hf := h.f
    clear h
    induction l with
    | nil => exact Int.le_refl _
    | cons x l ih =>
      have h1 := ih fun y hy => hf y (List.mem_cons_of_mem _ hy)
      have e2 : ∀ l : List D, enters (x :: l) = (if x.kind = 1 then x.parts else 0) + enters l := fun l => by rw [enters, List.map_cons, sumI_cons]; rfl
      have h2 : 0 ≤ (if x.kind = 1 then x.parts else 0) := by
        split
        · next k => have := formed_parts (hf x (List.mem_cons_self ..)) k; omega
        omega
      rw [List.filter_cons]
      split
      · rw [e2, e2]; omega
      rw [e2]; omega
  have := h.e
  omega
end
end Go.Vk.Deed

/-! Deeds that are right can be done one after another. -/
namespace Go.Vk.Deed
open Go Go.Vk
theorem enters_perm {l l' : List D} (h : l.Perm l') : enters l = enters l' := sumI_perm (h.map _)
theorem enters_cons {x : D} {l : List D} : enters (x :: l) = (if x.kind = 1 then x.parts else 0) + enters l := by rw [enters, List.map_cons, sumI_cons]; rfl
theorem enters_filter {l : List D} (p : D → Bool) (hf : ∀ x ∈ l, formed x = true) : enters (l.filter p) ≤ enters l := by
  induction l with
  | nil => exact Int.le_refl _
  | cons x l ih =>
    have h1 := ih fun y hy => hf y (List.mem_cons_of_mem _ hy)
    have h2 : 0 ≤ (if x.kind = 1 then x.parts else 0) := by
      split
      · next k => have := formed_parts (hf x (List.mem_cons_self ..)) k; omega
      omega
    rw [List.filter_cons]
    split
    · rw [enters_cons, enters_cons]; omega
    rw [enters_cons]; omega
theorem right_enters {l : List D} (h : rightD l = true) : ∀ i, i ≤ l.length → enters (l.take i) ≤ 1000000000 := by
  intro i
  induction i with
  | zero => intro _; simp [enters, sumI]
  | succ i ih =>
    intro hi
    have h1 := ih (by omega)
    obtain ⟨y, hy⟩ : ∃ y, l[i]? = some y := ⟨_, List.getElem?_eq_getElem (by omega)⟩
    rw [enters_take hy]
    split
    · next k =>
      have h0 := right_iff.1 h i (by omega)
      rw [chkAt_get hy] at h0
      have hf := right_formed h (List.mem_of_getElem? hy)
      have hof : ¬ 0 < y.of := fun ho => by have := formed_of hf ho; omega
      unfold follows at h0
      split at h0
      · omega
      split at h0
      · omega
      split at h0
      · omega
      split at h0
      · omega
      omega
    omega
theorem right_play {l : List D} {known : Int} (h : rightD l = true) : PlayL (counting l known) := by
  have hp := order_perm (l.filter (counts l known))
  have hm : ∀ x ∈ counting l known, x ∈ l ∧ counts l known x = true := fun x hx => List.mem_filter.1 (hp.mem_iff.1 hx)
  have hf : ∀ x ∈ l, formed x = true := fun x hx => right_formed h hx
  have hl := right_len h
  refine ⟨fun x hx => hf x (hm x hx).1, fun x hx => ?_, ?_, ?_, ?_⟩
  · have := (hm x hx).2
    simp [counts] at this
    exact this.1.1
  · refine ((hp.map _).nodup_iff).2 ?_
    refine List.Pairwise.map _ (fun a b hab => ?_) (asc_filter (right_asc h) (counts l known))
    omega
  · rw [counting, enters_perm hp]
    have h1 := enters_filter (counts l known) hf
    have h2 := right_enters h l.length (Nat.le_refl _)
    rw [List.take_length] at h2
    omega
  have h1 := hp.length_eq
  have h2 := List.length_filter_le (counts l known) l
  rw [counting]; omega
theorem PlayL.nil : PlayL [] := ⟨by simp, by simp, by simp, by simp [enters, sumI], by simp⟩
end Go.Vk.Deed

/- Deeds, as plain mathematics, part 9: what is asked of what has been done. No program in sight. -/
namespace Go.Vk.Deed
open Go Go.Vk
section
variable {s : St} {l t : List D} {x y : D}
end
theorem _root_.Go.Vk.Keep.old {X : Nat → Prop} {w0 w w1 : World} (S : Keep X w w1) (h0 : Le w0 w) (hX : ∀ b, X b → w0.heap.size ≤ b) : Le w0 w1 :=
  ⟨S.os.trans h0.os, S.tape.trans h0.tape, S.output.trans h0.output, Nat.le_trans h0.size S.size, fun b hb _ =>
    (S.block b (Nat.lt_of_lt_of_le hb h0.size) fun hx => by have := hX b hx; omega).trans (h0.block b hb id), Nat.le_trans h0.drawn S.drawn⟩
end Go.Vk.Deed

/- Deeds, as plain mathematics, part 10: on which deeds an owner's figures rest. No program in sight. -/
namespace Go.Vk.Deed
open Go Go.Vk Go.Sort Go.Proofs

/-- Along a relation. -/
inductive Rch (R : Nat → Nat → Bool) : Nat → Nat → Prop where
  | refl (i : Nat) : Rch R i i
  | step {i j k : Nat} (h : R i j = true) (t : Rch R j k) : Rch R i k
section
variable {R : Nat → Nat → Bool} {i j k : Nat} {T T' T0 T1 : List Nat} {n : Nat}
theorem Rch.trans (h : Rch R i j) : Rch R j k → Rch R i k := by
  induction h with
  | refl _ => exact id
  | step h _ ih => exact fun g => .step h (ih g)
/-- From what is taken to what is taken behind i. -/
structure Took (R : Nat → Nat → Bool) (n : Nat) (T : List Nat) (i : Nat) (T' : List Nat) : Prop where
  sub : ∀ k ∈ T, k ∈ T'
  mem : i ∈ T'
  rch : ∀ k ∈ T', k ∈ T ∨ Rch R i k
  clo : ∀ j ∈ T', j ∉ T → ∀ k, R j k = true → k ∈ T'
  nd : T'.Nodup
  lt : ∀ k ∈ T', k < n
/-- Behind i, when its successors before k have been taken. -/
structure Tak (R : Nat → Nat → Bool) (n : Nat) (T : List Nat) (i : Nat) (T' : List Nat) (k : Nat) : Prop where
  sub : ∀ k ∈ i :: T, k ∈ T'
  rch : ∀ k ∈ T', k ∈ T ∨ Rch R i k
  clo : ∀ j ∈ T', j ∉ i :: T → ∀ k, R j k = true → k ∈ T'
  dn : ∀ q, q < k → R i q = true → q ∈ T'
  nd : T'.Nodup
  lt : ∀ k ∈ T', k < n
theorem Tak.start (hi : i ∉ T) (hin : i < n) (hn : T.Nodup) (hl : ∀ k ∈ T, k < n) : Tak R n T i (i :: T) 0 :=
  ⟨fun _ h => h, fun k h => by rcases List.mem_cons.1 h with rfl | h; exact .inr (.refl _); exact .inl h, fun _ h g => absurd h g, fun q h => absurd h (Nat.not_lt_zero q), List.nodup_cons.2 ⟨hi, hn⟩,
   fun k h => by rcases List.mem_cons.1 h with rfl | h; exact hin; exact hl k h⟩
theorem Tak.skip (h : Tak R n T i T' k) (hk : R i k = false) : Tak R n T i T' (k + 1) :=
  ⟨h.sub, h.rch, h.clo, fun q hq hr => by
    rcases Nat.lt_or_ge q k with g | g
    · exact h.dn q g hr
    obtain rfl : q = k := by omega
    rw [hk] at hr; exact absurd hr (by decide), h.nd, h.lt⟩
theorem Tak.take (h : Tak R n T i T' k) (hk : R i k = true) (g : Took R n T' k T1) : Tak R n T i T1 (k + 1) :=
  ⟨fun q hq => g.sub q (h.sub q hq), fun q hq => by
    rcases g.rch q hq with h1 | h1
    · exact h.rch q h1
    · exact .inr (.step hk h1), fun j hj hn q hr => by
    by_cases hj' : j ∈ T'
    · exact g.sub q (h.clo j hj' hn q hr)
    · exact g.clo j hj hj' q hr, fun q hq hr => by
    rcases Nat.lt_or_ge q k with g1 | g1
    · exact g.sub q (h.dn q g1 hr)
    obtain rfl : q = k := by omega
    exact g.mem, g.nd, g.lt⟩
theorem Tak.done (h : Tak R n T i T' n) (hR : ∀ q, R i q = true → q < n) : Took R n T i T' :=
  ⟨fun q hq => h.sub q (List.mem_cons_of_mem _ hq), h.sub i (List.mem_cons_self ..), h.rch, fun j hj hn q hr => by
    by_cases e : j = i
    · subst e; exact h.dn q (hR q hr) hr
    exact h.clo j hj (fun g => by rcases List.mem_cons.1 g with g | g; exact e g; exact hn g) q hr, h.nd, h.lt⟩
/-- All starts before i have been taken. -/
structure Tops (R : Nat → Nat → Bool) (st : Nat → Bool) (n : Nat) (T : List Nat) (i : Nat) : Prop where
  rch : ∀ k ∈ T, ∃ s, st s = true ∧ Rch R s k
  clo : ∀ j ∈ T, ∀ k, R j k = true → k ∈ T
  dn : ∀ q, q < i → st q = true → q ∈ T
  nd : T.Nodup
  lt : ∀ k ∈ T, k < n
variable {st : Nat → Bool}
theorem Tops.nil : Tops R st n [] 0 := ⟨by simp, by simp, fun q h => absurd h (Nat.not_lt_zero q), .nil, by simp⟩
theorem Tops.skip (h : Tops R st n T i) (hi : st i = false) : Tops R st n T (i + 1) :=
  ⟨h.rch, h.clo, fun q hq hs => by
    rcases Nat.lt_or_ge q i with g | g
    · exact h.dn q g hs
    obtain rfl : q = i := by omega
    rw [hi] at hs; exact absurd hs (by decide), h.nd, h.lt⟩
theorem Tops.take (h : Tops R st n T i) (hi : st i = true) (g : Took R n T i T') : Tops R st n T' (i + 1) :=
  ⟨fun k hk => by
    rcases g.rch k hk with h1 | h1
    · exact h.rch k h1
    · exact ⟨i, hi, h1⟩, fun j hj k hr => by
    by_cases hj' : j ∈ T
    · exact g.sub k (h.clo j hj' k hr)
    · exact g.clo j hj hj' k hr, fun q hq hs => by
    rcases Nat.lt_or_ge q i with g1 | g1
    · exact g.sub q (h.dn q g1 hs)
    obtain rfl : q = i := by omega
    exact g.mem, g.nd, g.lt⟩
end

/-! ### the fixed point -/
section
variable {l c : List D} {T : List Nat} {i k n : Nat}
/-- A part of the numbers, in their order. -/
def Part (n : Nat) (T : List Nat) : Prop := ∃ p : Nat → Bool, T = (List.range n).filter p
/-- The deed's number at a place. -/
def idAt (c : List D) (i : Nat) : Int := ((c[i]?).map (·.id)).getD 0
abbrev startL (l c : List D) (day o : Int) : List Nat := (List.range c.length).filter fun i => startB l c day o i
end
end Go.Vk.Deed

/- Deeds, as plain mathematics, part 11: how much there is, and that nobody has less than nothing free. No program in sight. -/
namespace Go.Vk.Deed
open Go Go.Vk

/-! ### whole parts add up -/
theorem sum_set : ∀ {o : List Int} {i : Nat} {d : Int}, i < o.length → sumI (o.set i (o.getD i 0 + d)) = sumI o + d := by
  intro o
  induction o with
  | nil => intro i d h; simp at h
  | cons x o ih =>
    intro i d h
    cases i with
    | zero => rw [List.set_cons_zero, sumI_cons, sumI_cons]; simp; omega
    | succ i =>
      have h1 := ih (i := i) (d := d) (by simpa using h)
      rw [List.set_cons_succ, sumI_cons, sumI_cons]
      have e : (x :: o).getD (i + 1) 0 = o.getD i 0 := by simp [List.getD_eq_getElem?_getD]
      rw [e, h1]; omega
theorem bumps_sum : ∀ (M o : List Int), (∀ x ∈ M, 0 ≤ x ∧ x < o.length) → sumI (bumps o M) = sumI o + M.length := by
  intro M
  induction M with
  | nil => intro o _; simp [bumps]
  | cons x M ih =>
    intro o h
    have hx := h x (List.mem_cons_self ..)
    show sumI (bumps (o.set x.toNat _) M) = _
    rw [ih _ fun y hy => by rw [List.length_set]; exact h y (List.mem_cons_of_mem _ hy), sum_set (by omega), List.length_cons]
    omega
theorem fst_sorted (c : Int → Int) (n : Nat) : ∃ L : List Int, L.Perm (idxs n) ∧ L.Pairwise (Fst c) := by
  let le : Int → Int → Bool := fun x y => decide (c y < c x ∨ (c x = c y ∧ x ≤ y))
  have h1 := List.pairwise_mergeSort (le := le) (fun a b d => by simp only [le, decide_eq_true_eq]; omega) (fun a b => by simp only [le, Bool.or_eq_true, decide_eq_true_eq]; omega) (idxs n)
  have hp := List.mergeSort_perm (idxs n) le
  refine ⟨_, hp, ?_⟩
  have hn : ((idxs n).mergeSort le).Nodup := (hp.nodup_iff).2 (by
    rw [idxs]
    exact List.Pairwise.map _ (fun a b h => by omega) List.pairwise_lt_range)
  exact List.Pairwise.imp₂ (fun a b h g => by simp only [le, decide_eq_true_eq] at h; unfold Fst; omega) h1 hn
theorem whole_sum {t : Int} {l : List Int} (hl : ∀ x ∈ l, 0 ≤ x) (hs : 0 < sumI l) : sumI (wholeS t l) = t := by
  obtain ⟨L, hp, hf⟩ := fst_sorted (fun x => (cutS t l).getD x.toNat 0) l.length
  have hb := left_bd (total := t) hl hs
  rw [← whole_of (c := fun x => (cutS t l).getD x.toNat 0) (fun j => rfl) hp hf hb.1]
  have hlb : (baseS t l).length = l.length := by simp [baseS]
  rw [bumps_sum _ _ fun x hx => by have := mem_idxs.1 (hp.mem_iff.1 (List.mem_of_mem_take hx)); rw [hlb]; exact this]
  have h1 := hp.length_eq
  rw [idxs_len] at h1
  rw [List.length_take, h1]
  omega

/-! ### moves are exact -/
section
variable {s s' : St} {T a c k : Int} {l t : List D} {x : D}
theorem sum_pos_filter {f : Int → Int} {l : List Int} (h : ∀ i ∈ l, 0 ≤ f i) : sumI ((l.filter fun i => decide (0 < f i)).map f) = sumI (l.map f) := by
  induction l with
  | nil => rfl
  | cons x l ih =>
    have h1 := ih fun i hi => h i (List.mem_cons_of_mem _ hi)
    have h2 := h x (List.mem_cons_self ..)
    rw [List.filter_cons, List.map_cons, sumI_cons]
    split
    · rw [List.map_cons, sumI_cons, h1]
    next g => simp at g; rw [h1]; omega
theorem moveL_exact : ∀ (L : List Int) {k : Int} {s : St}, L.Nodup → 0 ≤ k → (∀ i, 0 ≤ s.src a i) → k ≤ sumI (L.map (s.src a)) → ∀ o, (moveL a c L k s).holds o = s.holds o + (if o = a then -k else 0) + (if o = c then k else 0) := by
  intro L
  induction L with
  | nil =>
    intro k s _ hk _ hs o
    have : k = 0 := by simp [sumI] at hs; omega
    subst this
    show s.holds o = _
    split <;> split <;> omega
  | cons z L ih =>
    intro k s hn hk h0 hs o
    rw [List.nodup_cons] at hn
    rw [List.map_cons, sumI_cons] at hs
    rw [moveL]
    have hz := h0 z
    generalize hq : min k (s.src a z) = q
    have hss : ∀ i, (addS (addS s a z (-q)) c z q).src a i = s.src a i + (if i = z then -q else 0) + (if a = c ∧ i = z then q else 0) := fun i => by
      rw [addS_src, addS_src]; simp
    have hsum : sumI (L.map ((addS (addS s a z (-q)) c z q).src a)) = sumI (L.map (s.src a)) := sum_same fun i hi => by
      have : i ≠ z := fun e => hn.1 (e ▸ hi)
      rw [hss, if_neg this, if_neg fun e => this e.2]; omega
    have hsn := sum_nn (l := L) (f := s.src a) fun i _ => h0 i
    rw [ih hn.2 (by omega) (fun i => by
      rw [hss]
      have := h0 i
      by_cases e : i = z
      · subst e; rw [if_pos rfl]; split <;> omega
      rw [if_neg e, if_neg fun g => e g.2]; omega) (by rw [hsum]; omega) o, addS_holds, addS_holds]
    split <;> split <;> omega
theorem Bal.move_holds (h : Bal s T) (hk : 0 ≤ k ∧ k ≤ s.holds a) (o : Int) : (moveS s a c k).holds o = s.holds o + (if o = a then -k else 0) + (if o = c then k else 0) := by
  refine moveL_exact _ (idsS_asc.imp fun h => by omega) hk.1 (fun i => h.nn a i) ?_ o
  rw [idsS, sum_pos_filter fun i _ => h.nn a i, ← h.hs]; exact hk.2
/-- What goes to heirs. -/
theorem Bal.moves_holds (ha : 1 ≤ a ∧ a ≤ 40) : ∀ (hs ks : List Int) {s : St}, hs.length = ks.length → (∀ x ∈ hs, 1 ≤ x ∧ x ≤ 40) → (∀ k ∈ ks, 0 ≤ k) → a ∉ hs → Bal s T → sumI ks ≤ s.holds a →
    (movesS a hs ks s).holds a = s.holds a - sumI ks ∧ ∀ o, o ≠ a → s.holds o ≤ (movesS a hs ks s).holds o := by
  intro hs
  induction hs with
  | nil => intro ks s hl _ _ _ _ _; obtain rfl := List.length_eq_zero_iff.1 (by simpa using hl.symm); exact ⟨by simp [movesS, sumI], fun _ _ => Int.le_refl _⟩
  | cons y hs ih => intro ks s hl h1 h2 hn hB hS; cases ks with
    | nil => simp at hl
    | cons k ks =>
      rw [sumI_cons] at hS ⊢
      have hk := h2 k (List.mem_cons_self ..)
      have hsn : 0 ≤ sumI ks := by have := sum_nn (l := ks) (f := id) fun i hi => h2 i (List.mem_cons_of_mem _ hi); rwa [List.map_id] at this
      have hy : y ≠ a := fun e => hn (e ▸ List.mem_cons_self ..)
      have hm := hB.move_holds (a := a) (c := y) (k := k) ⟨hk, by omega⟩
      have hma := hm a
      rw [if_pos rfl, if_neg (Ne.symm hy)] at hma
      have h3 := ih ks (s := moveS s a y k) (by simpa using hl) (fun z hz => h1 z (List.mem_cons_of_mem _ hz)) (fun z hz => h2 z (List.mem_cons_of_mem _ hz)) (fun h => hn (List.mem_cons_of_mem _ h)) (hB.move ha (h1 y (List.mem_cons_self ..)) hk) (by omega)
      refine ⟨by show (movesS a hs ks (moveS s a y k)).holds a = _; rw [h3.1]; omega, fun o ho => ?_⟩
      have h4 := h3.2 o ho
      have h5 := hm o
      rw [if_neg ho] at h5
      refine Int.le_trans ?_ h4
      rw [h5]; split <;> omega

/-! ### nobody has less than nothing free -/
/-- Nobody has less than nothing free, from a day on. -/
structure NN (s : St) (d : Int) : Prop where
  ld : ∀ x ∈ s.leases, x.day ≤ d
  fr : ∀ o d', d ≤ d' → 0 ≤ free s o d'
theorem sumF_mono {α : Type} {p q : α → Bool} {f : α → Int} {l : List α} (h : ∀ x ∈ l, 0 ≤ f x ∧ (p x = true → q x = true)) : sumF p f l ≤ sumF q f l := by
  induction l with
  | nil => exact Int.le_refl _
  | cons x l ih =>
    have h1 := ih fun y hy => h y (List.mem_cons_of_mem _ hy)
    have h2 := h x (List.mem_cons_self ..)
    have e : ∀ p : α → Bool, sumF p f (x :: l) = (if p x = true then f x else 0) + sumF p f l := fun p => by
      unfold sumF; rw [List.filter_cons]; split
      · rw [List.map_cons, sumI_cons]
      omega
    rw [e, e]
    split <;> split <;> simp_all <;> omega
theorem sumF_cons {α : Type} {p : α → Bool} {f : α → Int} {x : α} {l : List α} : sumF p f (x :: l) = (if p x = true then f x else 0) + sumF p f l := by
  unfold sumF; rw [List.filter_cons]; split
  · rw [List.map_cons, sumI_cons]
  omega
theorem sumF_nn {α : Type} {p : α → Bool} {f : α → Int} {l : List α} (h : ∀ x ∈ l, 0 ≤ f x) : 0 ≤ sumF p f l := by
  induction l with
  | nil => exact Int.le_refl _
  | cons x l ih =>
    have h1 := ih fun y hy => h y (List.mem_cons_of_mem _ hy)
    have h2 := h x (List.mem_cons_self ..)
    rw [sumF_cons]; split <;> omega
theorem out_mono {d d' : Int} (hp : ∀ x ∈ s.leases, 0 ≤ x.parts) (hl : ∀ x ∈ s.leases, x.day ≤ d) (h : d ≤ d') (o : Int) : outS s o d' ≤ outS s o d :=
  sumF_mono fun x hx => ⟨hp x hx, by have := hl x hx; simp only [decide_eq_true_eq]; omega⟩
theorem out_nn {d : Int} (hp : ∀ x ∈ s.leases, 0 ≤ x.parts) (o : Int) : 0 ≤ outS s o d := sumF_nn hp
theorem NN.mono {d d' : Int} (h : NN s d) (hd : d ≤ d') : NN s d' := ⟨fun x hx => Int.le_trans (h.ld x hx) hd, fun o e he => h.fr o e (Int.le_trans hd he)⟩
theorem free_holds {o d : Int} (h1 : s'.leases = s.leases) (h2 : s'.pledges = s.pledges) : free s' o d = free s o d + (s'.holds o - s.holds o) := by
  simp only [free, outS, pledged, h1, h2]; omega
theorem pledged_pledge {o : Int} : pledged (pledgeS s x) o = pledged s o + if x.frm = o then x.parts else 0 := by
  unfold pledged pledgeS
  simp only []
  rw [sumF_snoc]
  simp only [decide_eq_true_eq]
theorem out_lease {o d : Int} : outS (leaseS s x) o d = outS s o d + if x.frm = o ∧ x.day ≤ d ∧ d ≤ x.stop then x.parts else 0 := by
  unfold outS leaseS
  simp only []
  rw [sumF_snoc]
  simp only [decide_eq_true_eq]
theorem sum_take_out {q : Pl → Bool} : ∀ {l : List Pl}, (l.map (·.deed)).Nodup → ∀ {id : Int} {p : Pl}, l.find? (fun p => decide (p.deed = id)) = some p → sumF q (·.parts) l = sumF q (·.parts) (l.filter fun q => decide (q.deed ≠ id)) + if q p = true then p.parts else 0 := by
  intro l
  induction l with
  | nil => intro _ id p h; cases h
  | cons z l ih =>
    intro hn id p h
    rw [List.map_cons, List.nodup_cons] at hn
    by_cases e : z.deed = id
    · rw [List.find?_cons_of_pos (by simpa using e)] at h
      cases h
      have hf : l.filter (fun q => decide (q.deed ≠ id)) = l := List.filter_eq_self.2 fun y hy => by
        have : y.deed ≠ id := fun g => hn.1 (e ▸ g ▸ List.mem_map.2 ⟨y, hy, rfl⟩)
        simpa using this
      rw [List.filter_cons, if_neg (by simpa using e), hf, sumF_cons]; omega
    rw [List.find?_cons_of_neg (by simpa using e)] at h
    rw [List.filter_cons, if_pos (by simpa using e), sumF_cons, sumF_cons, ih hn.2 h]; omega
theorem pledged_redeem {o id : Int} {p : Pl} (hn : (s.pledges.map (·.deed)).Nodup) (hp : plOf s id = some p) : pledged s o = pledged (redeemS s id) o + if p.frm = o then p.parts else 0 := by
  have := sum_take_out (q := fun x : Pl => decide (x.frm = o)) hn hp
  simp only [decide_eq_true_eq] at this
  exact this
theorem heirs_not {x : D} (h : heirsB x = true) : x.frm ∉ x.heirs := by
  unfold heirsB at h
  simp only [Bool.and_eq_true] at h
  have hf := h.2
  have key : ∀ (l seen : List Int), fresh seen l = true → ∀ y ∈ l, y ∉ seen := by
    intro l
    induction l with
    | nil => intro _ _ y hy; cases hy
    | cons z l ih =>
      intro seen h y hy
      rw [fresh, Bool.and_eq_true] at h
      rcases List.mem_cons.1 hy with rfl | hy
      · intro hc; have h9 := List.contains_iff_mem.2 hc; rw [h9] at h; exact absurd h.1 (by decide)
      exact fun hc => ih _ h.2 y hy (List.mem_cons_of_mem _ hc)
  exact fun hm => key _ _ hf _ hm (List.mem_cons_self ..)
theorem free_le1 (h : StB s) {o day : Int} : free s o day ≤ 1000000000 := by
  have h1 := h.outS (o := o) (day := day)
  have h2 := h.pledged (o := o)
  have h3 := h.hb o
  unfold free; omega
theorem NN.step (hI : StI s l) (he : enters l ≤ 1000000000) (hl : l.length ≤ 400) (hf : formed x = true) (hk8 : x.kind ≠ 8) (hN : NN s x.day) : NN (try1 s x) x.day := by
  have hlp : ∀ y ∈ s.leases, 0 ≤ y.parts := fun y hy => by have := (hI.lp y hy).1; omega
  have hidle : NN (idleS s x.id) x.day := ⟨hN.ld, hN.fr⟩
  have hmono : ∀ o d, x.day ≤ d → free s o x.day ≤ free s o d := fun o d hd => by
    have := out_mono (s := s) hlp hN.ld hd o
    unfold free; omega
  have hge : ∀ o, 0 ≤ pledged s o ∧ 0 ≤ outS s o x.day := fun o => ⟨sumF_nn fun y hy => by have := (hI.pp y hy).1; omega, out_nn hlp o⟩
  rcases formed_kinds hf with k | k | k | k | k | k | k | k
  · rw [try_some (do_enter k)]
    have hq := formed_ent hf k
    refine ⟨hN.ld, fun o d hd => ?_⟩
    rw [free_holds (s := s) (s' := addS s x.to x.id x.parts) rfl rfl, addS_holds]
    have := hN.fr o d hd
    split <;> omega
  · have hq := formed_two hf (.inl k)
    by_cases hp : x.parts ≤ free s x.frm x.day
    · rw [try_some (do_grant k hp)]
      refine ⟨fun y hy => hN.ld y (by rwa [moveS_rest.1] at hy), fun o d hd => ?_⟩
      have h1 := hge x.frm
      rw [free_holds (s := s) moveS_rest.1 moveS_rest.2.1, hI.bal.move_holds ⟨by omega, by unfold free at hp; omega⟩]
      have h2 := hN.fr o d hd
      have h3 := hmono o d hd
      by_cases e : o = x.frm
      · subst e; rw [if_pos rfl]; split <;> omega
      rw [if_neg e]; split <;> omega
    rw [try_none (do_grant0 k hp)]; exact hidle
  · by_cases hp : 0 < free s x.frm x.day
    · rw [try_some (do_heirs k hp)]
      have hh := heirs_facts (formed_heirs hf k)
      have hB := hI.stb he hl
      have hrest := movesS_rest (a := x.frm) x.heirs (wholeS (free s x.frm x.day) x.shares) s
      refine ⟨fun y hy => hN.ld y (by rwa [hrest.1] at hy), fun o d hd => ?_⟩
      have h1 := hge x.frm
      have hsp := sum_pos hh.2.2.2.2 (by omega)
      have hws := whole_sum (t := free s x.frm x.day) (l := x.shares) (fun y hy => by have := hh.2.2.2.2 y hy; omega) hsp
      have hfr := free_le1 hB (o := x.frm) (day := x.day)
      have hm := Bal.moves_holds (T := enters l) hh.2.2.1 x.heirs (wholeS (free s x.frm x.day) x.shares) (s := s) (by rw [whole_len]; omega) hh.2.2.2.1 (fun y hy => by
        obtain ⟨j, hj⟩ := List.getElem?_of_mem hy
        exact (whole_bd (by omega) (fun z hz => by have := hh.2.2.2.2 z hz; omega) hsp hj).1) (heirs_not (formed_heirs hf k)) hI.bal (by rw [hws]; unfold free; omega)
      rw [free_holds (s := s) hrest.1 hrest.2.1]
      have h2 := hN.fr o d hd
      have h3 := hmono o d hd
      by_cases e : o = x.frm
      · subst e; rw [hm.1, hws]; omega
      have := hm.2 o e; omega
    rw [try_none (do_heirs0 k hp)]; exact hidle
  · have hq := formed_two hf (.inr (.inl k))
    by_cases hp : x.parts ≤ free s x.frm x.day
    · rw [try_some (do_lease k hp)]
      refine ⟨fun y hy => ?_, fun o d hd => ?_⟩
      · rcases List.mem_append.1 hy with hy | hy
        · exact hN.ld y hy
        simp at hy; subst hy; exact Int.le_refl _
      have h2 : 0 ≤ s.holds o - outS s o d - pledged s o := hN.fr o d hd
      have h3 : free s o x.day ≤ s.holds o - outS s o d - pledged s o := hmono o d hd
      have e1 : free (leaseS s x) o d = s.holds o - outS (leaseS s x) o d - pledged s o := rfl
      rw [e1, out_lease]
      split
      · next g => obtain ⟨rfl, _⟩ := g; omega
      omega
    rw [try_none (do_lease0 k hp)]; exact hidle
  · have hq := formed_two hf (.inr (.inr k))
    by_cases hp : x.parts ≤ free s x.frm x.day
    · rw [try_some (do_pledge k hp)]
      refine ⟨hN.ld, fun o d hd => ?_⟩
      have h2 : 0 ≤ s.holds o - outS s o d - pledged s o := hN.fr o d hd
      have h3 : free s o x.day ≤ s.holds o - outS s o d - pledged s o := hmono o d hd
      have e1 : free (pledgeS s x) o d = s.holds o - outS s o d - pledged (pledgeS s x) o := rfl
      rw [e1, pledged_pledge]
      split
      · next g => subst g; omega
      omega
    rw [try_none (do_pledge0 k hp)]; exact hidle
  · cases hp : plOf s x.of with
    | some p =>
      rw [try_some (do_redeem k hp)]
      refine ⟨hN.ld, fun o d hd => ?_⟩
      have h2 := hN.fr o d hd
      have h3 := pledged_redeem (o := o) hI.pn hp
      have h4 := (hI.pp p (plOf_mem hp).1).1
      have e1 : free (redeemS s x.of) o d = s.holds o - outS s o d - pledged (redeemS s x.of) o := rfl
      rw [e1]
      unfold free at h2
      split at h3 <;> omega
    | none => rw [try_none (do_redeem0 k hp)]; exact hidle
  · cases hp : plOf s x.of with
    | some p =>
      rw [try_some (do_seize k hp)]
      have h4 := hI.pp p (plOf_mem hp).1
      have hR := hI.redeem x.of
      have e2 : ∀ o d, free (redeemS s x.of) o d = s.holds o - outS s o d - pledged (redeemS s x.of) o := fun _ _ => rfl
      have h6 : ∀ o, 0 ≤ pledged (redeemS s x.of) o := fun o => sumF_nn fun y hy => by have := (hR.pp y hy).1; omega
      have hb : p.parts ≤ (redeemS s x.of).holds p.frm := by
        have h2 := hN.fr p.frm x.day (Int.le_refl _)
        have h3 := pledged_redeem (o := p.frm) hI.pn hp
        rw [if_pos rfl] at h3
        have h1 := hge p.frm
        have h7 := h6 p.frm
        show p.parts ≤ s.holds p.frm
        unfold free at h2; omega
      refine ⟨fun y hy => hN.ld y (by rwa [moveS_rest.1] at hy), fun o d hd => ?_⟩
      rw [free_holds (s := redeemS s x.of) moveS_rest.1 moveS_rest.2.1, hR.bal.move_holds ⟨by omega, hb⟩, e2]
      have h2 := hN.fr o d hd
      have h3 := pledged_redeem (o := o) hI.pn hp
      unfold free at h2
      by_cases e : o = p.frm
      · subst e; rw [if_pos rfl] at h3 ⊢; split <;> omega
      rw [if_neg (Ne.symm e)] at h3; rw [if_neg e]; split <;> omega
    | none => rw [try_none (do_seize0 k hp)]; exact hidle
  exact absurd k hk8
theorem play_nn : ∀ (n : Nat) {l : List D}, l.length = n → PlayL l → l.Pairwise (fun a b => a.day ≤ b.day) → ∀ d, (∀ x ∈ l, x.day ≤ d) → NN (play l) d := by
  intro n
  induction n with
  | zero =>
    intro l hl _ _ d _
    obtain rfl := List.length_eq_zero_iff.1 hl
    exact ⟨by simp [play, St.nil], fun o d' _ => by simp [play, St.nil, free, outS, pledged, sumF, sumI]⟩
  | succ n ih =>
    intro l hl h hs d hd
    have hne : l ≠ [] := fun e => by subst e; simp at hl
    obtain ⟨t, x, rfl⟩ : ∃ t x, l = t ++ [x] := ⟨l.dropLast, l.getLast hne, (List.dropLast_concat_getLast hne).symm⟩
    have ht := h.pre
    rw [List.pairwise_append] at hs
    have h1 := ih (by simpa using hl) ht hs.1 x.day fun y hy => hs.2.2 y hy x (by simp)
    rw [play_snoc]
    exact ((NN.step (play_inv _ rfl ht) ht.e ht.len (h.f x (by simp)) (h.k x (by simp)) h1)).mono (hd x (by simp))

/-! ### whence parts come -/
/-- What the DeedEnter of a number enters. -/
def entOf (l : List D) (i : Int) : Int := sumI (l.map fun x => if x.kind = 1 ∧ x.id = i then x.parts else 0)
def srcSum (s : St) (i : Int) : Int := sumI (owners.map fun o => s.src o i)
end
end Go.Vk.Deed

/- Fractions, as plain mathematics. No program in sight. -/
namespace Go.Vk.Share
open Go Go.Vk Go.Vk.Deed

structure Fr where
  num : Int
  den : Int
deriving DecidableEq
def encF (x : Fr) : List Value := [i64 x.num, i64 x.den]
/-- The greatest common divisor. -/
def gcdF (a b : Int) : Int := (Int.gcd a b : Nat)
/-- A fraction in lowest terms; b is above 0. -/
def nrm (a b : Int) : Fr := ⟨a.tdiv (gcdF a b), b.tdiv (gcdF a b)⟩
def okF (x : Fr) : Bool := rng x.num (-1000000000000) 1000000000000 && decide (x.den ≤ 1000000)
def validF (x : Fr) : Bool := rng x.den 1 1000000 && rng x.num (-1000000000000) 1000000000000 && decide (gcdF x.num x.den = 1)
def plus (a b : Fr) : Fr := nrm (a.num * b.den + b.num * a.den) (a.den * b.den)
def minus (a b : Fr) : Fr := plus a ⟨-b.num, b.den⟩
def sumFr (l : List Fr) : Fr := l.foldl plus ⟨0, 1⟩
def cmpF (a b : Fr) : Int := cmpI (a.num * b.den) (b.num * a.den)

theorem gcd_step (a b : Int) : gcdF b (a.tmod b) = gcdF a b := by
  unfold gcdF Int.gcd
  rw [Int.natAbs_tmod, Nat.gcd_comm, ← Nat.gcd_rec, Nat.gcd_comm]
theorem gcd_zero (a : Int) : gcdF a 0 = (if a < 0 then -a else a) := by
  unfold gcdF Int.gcd; simp; split <;> omega
theorem gcd_pos {a b : Int} (h : 0 < b) : 0 < gcdF a b := by
  have : 0 < Int.gcd a b := Int.gcd_pos_iff.2 (.inr (by omega))
  unfold gcdF; omega
theorem gcd_dvd_l (a b : Int) : gcdF a b ∣ a := Int.gcd_dvd_left ..
theorem gcd_dvd_r (a b : Int) : gcdF a b ∣ b := Int.gcd_dvd_right ..
theorem nrm_num {a b : Int} : (nrm a b).num * gcdF a b = a := Int.tdiv_mul_cancel (gcd_dvd_l a b)
theorem nrm_den {a b : Int} : (nrm a b).den * gcdF a b = b := Int.tdiv_mul_cancel (gcd_dvd_r a b)
theorem nrm_pos {a b : Int} (h : 0 < b) : 0 < (nrm a b).den := by
  have h1 := nrm_den (a := a) (b := b)
  have h2 := gcd_pos (a := a) h
  refine Int.pos_of_mul_pos_left ?_ h2
  rw [h1]; exact h
theorem nrm_le {a b : Int} (h : 0 < b) : (nrm a b).den ≤ b := by
  have h1 := nrm_den (a := a) (b := b)
  have h2 := gcd_pos (a := a) h
  have h3 := nrm_pos (a := a) h
  have : (nrm a b).den * 1 ≤ (nrm a b).den * gcdF a b := Int.mul_le_mul_of_nonneg_left (by omega) (by omega)
  omega
theorem nrm_abs {a b : Int} (h : 0 < b) : -(if a < 0 then -a else a) ≤ (nrm a b).num ∧ (nrm a b).num ≤ (if a < 0 then -a else a) := by
  have h1 := nrm_num (a := a) (b := b)
  have h2 := gcd_pos (a := a) h
  generalize (nrm a b).num = n at *
  generalize gcdF a b = d at *
  have key : n.natAbs ≤ a.natAbs := by
    rw [← h1, Int.natAbs_mul]
    exact Nat.le_mul_of_pos_right _ (by omega)
  split <;> omega
theorem nrm_cross {a b : Int} (h : 0 < b) : (nrm a b).num * b = a * (nrm a b).den := by
  have h1 := nrm_num (a := a) (b := b)
  have h2 := nrm_den (a := a) (b := b)
  have h3 := gcd_pos (a := a) h
  generalize (nrm a b).num = n at *
  generalize (nrm a b).den = m at *
  generalize gcdF a b = d at *
  rw [← h1, ← h2, Int.mul_assoc, Int.mul_comm d m]
theorem nrm_gcd {a b : Int} (h : 0 < b) : gcdF (nrm a b).num (nrm a b).den = 1 := by
  have h2 : 0 < Int.gcd a b := Int.gcd_pos_iff.2 (.inr (by omega))
  have e1 : a.tdiv (gcdF a b) = a / gcdF a b := Int.tdiv_eq_ediv_of_dvd (gcd_dvd_l a b)
  have e2 : b.tdiv (gcdF a b) = b / gcdF a b := Int.tdiv_eq_ediv_of_dvd (gcd_dvd_r a b)
  show gcdF (a.tdiv (gcdF a b)) (b.tdiv (gcdF a b)) = 1
  rw [e1, e2]
  show ((Int.gcd (a / (Int.gcd a b : Int)) (b / (Int.gcd a b : Int)) : Nat) : Int) = 1
  rw [Int.gcd_ediv_gcd_ediv_gcd h2]; rfl
theorem nrm_valid {a b : Int} (h : 0 < b) (hk : okF (nrm a b) = true) : validF (nrm a b) = true := by
  have h1 := nrm_pos (a := a) h
  have h2 := nrm_gcd (a := a) h
  unfold okF at hk
  unfold validF
  simp only [Bool.and_eq_true, decide_eq_true_eq, rng_iff] at *
  exact ⟨⟨⟨by omega, hk.2⟩, hk.1⟩, h2⟩
theorem valid_iff {x : Fr} : validF x = true ↔ (1 ≤ x.den ∧ x.den ≤ 1000000) ∧ (-1000000000000 ≤ x.num ∧ x.num ≤ 1000000000000) ∧ gcdF x.num x.den = 1 := by
  unfold validF
  simp only [Bool.and_eq_true, decide_eq_true_eq, rng_iff, and_assoc]
theorem ok_iff {x : Fr} : okF x = true ↔ (-1000000000000 ≤ x.num ∧ x.num ≤ 1000000000000) ∧ x.den ≤ 1000000 := by
  unfold okF
  simp only [Bool.and_eq_true, decide_eq_true_eq, rng_iff]
theorem nrm_small {a b : Int} (hb : 0 < b) (h1 : b ≤ 1000000) (h2 : -1000000000000 ≤ a ∧ a ≤ 1000000000000) : okF (nrm a b) = true := by
  have h3 := nrm_le (a := a) hb
  have h4 := nrm_abs (a := a) hb
  rw [ok_iff]
  split at h4 <;> omega
/-- Where one more is given, something was cut off. -/
theorem bump_cut {t : Int} {l : List Int} {i : Nat} (hl : ∀ x ∈ l, 0 ≤ x) (hs : 0 < sumI l) (hi : i < l.length) (h : (cutsAbove (cutS t l) i : Int) < t - sumI (baseS t l)) : 0 < (cutS t l).getD i 0 := by
  refine Decidable.byContradiction fun h0 => ?_
  have hlen : (cutS t l).length = l.length := by simp [cutS]
  have hc : ∀ x ∈ cutS t l, 0 ≤ x ∧ x ≤ sumI l - 1 := fun x hx => by
    obtain ⟨y, _, rfl⟩ := List.mem_map.1 hx
    have := Int.emod_nonneg (t * y) (by omega : sumI l ≠ 0)
    have := Int.emod_lt_of_pos (t * y) hs
    omega
  -- as many as are above 0 come before
  have h1 : ((cutS t l).filter fun x => decide (0 < x)).length ≤ cutsAbove (cutS t l) i := by
    have hci : (cutS t l).getD i 0 ≤ 0 := by omega
    generalize cutS t l = c at *
    have e : c.filter (fun x => decide (0 < x)) = (((List.range c.length).filter fun j => decide (0 < c.getD j 0)).map fun j => c.getD j 0) := by
      have e0 : c = (List.range c.length).map fun j => c.getD j 0 := by
        apply List.ext_getElem?
        intro j
        rw [List.getElem?_map]
        by_cases hj : j < c.length
        · rw [List.getElem?_range hj, Option.map_some, List.getD_eq_getElem?_getD, List.getElem?_eq_getElem hj]; rfl
        rw [List.getElem?_eq_none (by omega), List.getElem?_eq_none (by simp; omega)]; rfl
      conv => lhs; rw [e0]
      rw [List.filter_map]; rfl
    rw [e, List.length_map, cutsAbove, ← List.countP_eq_length_filter, ← List.countP_eq_length_filter]
    refine List.countP_mono_left fun j _ hj => ?_
    simp only [decide_eq_true_eq] at *
    omega
  -- what they have in all
  have h2 : ∀ {c : List Int}, (∀ x ∈ c, 0 ≤ x ∧ x ≤ sumI l - 1) → sumI c ≤ (sumI l - 1) * ((c.filter fun x => decide (0 < x)).length : Int) := by
    intro c
    induction c with
    | nil => intro _; simp [sumI]
    | cons x c ih =>
      intro h
      have g1 := ih fun y hy => h y (List.mem_cons_of_mem _ hy)
      have g2 := h x (List.mem_cons_self ..)
      rw [sumI_cons, List.filter_cons]
      split
      · rw [List.length_cons, Int.natCast_add, Int.mul_add]; omega
      next g => simp at g; omega
  have h3 := left_aux (total := t) hs hl
  change t * sumI l = sumI l * sumI (baseS t l) + sumI (cutS t l) at h3
  have h4 := h2 hc
  generalize ((cutS t l).filter fun x => decide (0 < x)).length = k at *
  have h5 : (k : Int) < t - sumI (baseS t l) := by omega
  have h6 : (sumI l - 1) * (k : Int) ≤ (sumI l - 1) * (t - sumI (baseS t l)) := Int.mul_le_mul_of_nonneg_left (by omega) (by omega)
  have h7 : sumI l * (t - sumI (baseS t l)) = sumI (cutS t l) := by rw [Int.mul_sub, Int.mul_comm (sumI l) t]; omega
  simp only [Int.sub_mul, Int.one_mul] at h4 h6
  omega
/-- A whole part differs by less than one from the exact one. -/
theorem whole_near {t : Int} {l : List Int} {i : Nat} {p y : Int} (hl : ∀ x ∈ l, 0 ≤ x) (hs : 0 < sumI l) (hp : l[i]? = some p) (hy : (wholeS t l)[i]? = some y) : y * sumI l - t * p < sumI l ∧ t * p - y * sumI l < sumI l := by
  have hi := (List.getElem?_eq_some_iff.1 hp).1
  have e : (wholeS t l)[i]? = some ((baseS t l).getD i 0 + if (cutsAbove (cutS t l) i : Int) < t - sumI (baseS t l) then 1 else 0) := by
    unfold wholeS
    simp only []
    rw [List.getElem?_map, List.getElem?_range hi, Option.map_some]
    rfl
  have hb : (baseS t l).getD i 0 = t * p / sumI l := by
    rw [List.getD_eq_getElem?_getD, baseS, List.getElem?_map, hp]; rfl
  have hc : (cutS t l).getD i 0 = t * p % sumI l := by
    rw [List.getD_eq_getElem?_getD, cutS, List.getElem?_map, hp]; rfl
  have h1 := Int.mul_ediv_add_emod (t * p) (sumI l)
  have h2 := Int.emod_nonneg (t * p) (by omega : sumI l ≠ 0)
  have h3 := Int.emod_lt_of_pos (t * p) hs
  rw [e] at hy
  have hy := Option.some.inj hy
  subst hy
  rw [hb]
  split
  · next g =>
    have h4 := bump_cut hl hs hi g
    rw [hc] at h4
    rw [Int.add_mul, Int.one_mul, Int.mul_comm (t * p / sumI l)]
    omega
  rw [Int.add_mul, Int.zero_mul, Int.mul_comm (t * p / sumI l)]
  omega
/-- The difference of a whole part and an exact one is less than one part. -/
theorem near_math {u S p y : Int} (hS : 0 < S) (hlt : y * S - u * p < S ∧ u * p - y * S < S) :
    let one := nrm y 5040; let ex := nrm ((nrm u 5040).num * p) ((nrm u 5040).den * S)
    (minus one ex).num * 5040 < 1 * (minus one ex).den ∧ -1 * (minus one ex).den < (minus one ex).num * 5040 ∧ 0 < (minus one ex).den := by
  intro one ex
  have h5 : (0 : Int) < 5040 := by omega
  have p1 : 0 < one.den := nrm_pos h5
  have p2 : 0 < (nrm u 5040).den := nrm_pos h5
  have p3 : 0 < ex.den := nrm_pos (Int.mul_pos p2 hS)
  have c1 : one.num * 5040 = y * one.den := nrm_cross h5
  have c2 : (nrm u 5040).num * 5040 = u * (nrm u 5040).den := nrm_cross h5
  have c3 : ex.num * ((nrm u 5040).den * S) = (nrm u 5040).num * p * ex.den := nrm_cross (Int.mul_pos p2 hS)
  -- ex * 5040 * S = u * p
  have c4 : ex.num * 5040 * S = u * p * ex.den := by
    refine Int.eq_of_mul_eq_mul_right (a := (nrm u 5040).den) (by omega) ?_
    calc ex.num * 5040 * S * (nrm u 5040).den = ex.num * ((nrm u 5040).den * S) * 5040 := by ac_rfl
      _ = (nrm u 5040).num * p * ex.den * 5040 := by rw [c3]
      _ = (nrm u 5040).num * 5040 * (p * ex.den) := by ac_rfl
      _ = u * (nrm u 5040).den * (p * ex.den) := by rw [c2]
      _ = u * p * ex.den * (nrm u 5040).den := by ac_rfl
  have pd : 0 < one.den * ex.den := Int.mul_pos p1 p3
  have cm : (minus one ex).num * (one.den * ex.den) = (one.num * ex.den + -ex.num * one.den) * (minus one ex).den := nrm_cross pd
  have pm : 0 < (minus one ex).den := nrm_pos pd
  generalize minus one ex = d at *
  generalize one.num = n at *
  generalize one.den = m at *
  generalize ex.num = e at *
  generalize ex.den = f at *
  -- d.num * 5040 * S * (m f) = (y S - u p) * m * f * d.den
  have key : d.num * 5040 * (S * (m * f)) = (y * S - u * p) * d.den * (m * f) := by
    calc d.num * 5040 * (S * (m * f)) = d.num * (m * f) * (5040 * S) := by ac_rfl
      _ = (n * f + -e * m) * d.den * (5040 * S) := by rw [cm]
      _ = ((n * 5040) * (f * S) - (e * 5040 * S) * m) * d.den := by
        rw [Int.neg_mul, ← Int.sub_eq_add_neg, Int.sub_mul, Int.sub_mul, Int.sub_mul]; congr 1 <;> ac_rfl
      _ = (y * m * (f * S) - u * p * f * m) * d.den := by rw [c1, c4]
      _ = (y * S - u * p) * d.den * (m * f) := by
        rw [Int.sub_mul, Int.sub_mul, Int.sub_mul]; congr 1 <;> ac_rfl
  have key2 : d.num * 5040 * S = (y * S - u * p) * d.den := by
    refine Int.eq_of_mul_eq_mul_right (a := m * f) (by omega) ?_
    rw [← key]; ac_rfl
  refine ⟨?_, ?_, pm⟩
  · refine Int.lt_of_mul_lt_mul_right (a := S) ?_ (by omega)
    rw [key2, Int.one_mul, Int.mul_comm d.den S]
    exact Int.mul_lt_mul_of_pos_right hlt.1 pm
  refine Int.lt_of_mul_lt_mul_right (a := S) ?_ (by omega)
  rw [key2]
  have : -1 * d.den * S = (-S) * d.den := by rw [Int.neg_mul, Int.one_mul, Int.neg_mul, Int.neg_mul, Int.mul_comm]
  rw [this]
  exact Int.mul_lt_mul_of_pos_right (by omega) pm
end Go.Vk.Share

/- Fractions in memory. Generic over the program. -/
namespace Go.Vk
open Go Go.Vk.Deed
section
variable {P : Program} {w : World} {E : Operand → Value} {T T' ty : TypeId} {x y : Operand}
/-- Are two structs of integers equal? -/
theorem x_eqints {a b : List Int} (ht : P.underlying T = some (.struct (P.fieldsOf T))) (hp : P.stoodInHeld T = false) (hm : P.eqGuardType P.depth T = false) (hf : IntFields P 0 (P.fieldsOf T).toList) (hla : a.length = (P.fieldsOf T).toList.length) (hlb : b.length = (P.fieldsOf T).toList.length)
    (hx : E x = .agg (a.map (Value.int .i64)).toArray) (hy : E y = .agg (b.map (Value.int .i64)).toArray) : X P E (.binOp .eql T x y T') ty w (.bool (decide (a = b))) w := by
  refine ⟨nofun, fun _ _ _ _ => ?_⟩
  have h1 := run_eqFields_ints (P := P) (w := w) 9998 (P.fieldsOf T).toList 0 a b hf (by omega) (by omega)
  rw [List.drop_zero, List.drop_zero] at h1
  simp only [execOp, hx, hy, Sem.run_bind, run_eqGuard_agg w .eql T x y _ _ hm, Result.andThen_ok, run_eql_struct, run_equalIn_struct w 9999 T _ _ ht hp, h1, Sem.run_pure]
end
end Go.Vk
namespace Go.Vk.Share
open Go Go.Vk Go.Vk.Deed
def frE (T : TypeId) : Elt Fr where
  T := T
  sz := 2
  enc := encF
  zero := [i64 0, i64 0]
  len _ := rfl
  zlen := rfl
  one a x h := by simp [encF] at h; rcases h with h | h <;> subst h <;> rfl
  pos := by decide
theorem tmod_bd {x y : Int} (h : -9200000000000000000 ≤ x ∧ x ≤ 9200000000000000000) : -9200000000000000000 ≤ x.tmod y ∧ x.tmod y ≤ 9200000000000000000 := by
  have h1 : (x.tmod y).natAbs ≤ x.natAbs := by rw [Int.natAbs_tmod]; exact Nat.mod_le _ _
  omega
theorem tmod_lt {x y : Int} (h : y ≠ 0) : (x.tmod y).natAbs < y.natAbs := by
  rw [Int.natAbs_tmod]; exact Nat.mod_lt _ (by omega)
theorem max_neg (x : Int) : max x (-x) = if x < 0 then -x else x := by
  rw [Int.max_def]; split <;> split <;> omega
theorem mul_ab {a b A B : Int} (ha : -A ≤ a ∧ a ≤ A) (hb : 0 ≤ b ∧ b ≤ B) : -(A * B) ≤ a * b ∧ a * b ≤ A * B := by
  have hA : 0 ≤ A := by omega
  have h1 : a * b ≤ A * b := Int.mul_le_mul_of_nonneg_right ha.2 hb.1
  have h2 : A * b ≤ A * B := Int.mul_le_mul_of_nonneg_left hb.2 hA
  have h3 : -A * b ≤ a * b := Int.mul_le_mul_of_nonneg_right ha.1 hb.1
  rw [Int.neg_mul] at h3
  omega
theorem minus_bd {x y : Fr} (hx : validF x = true) (hy : validF y = true) : ((-9200000000000000000 ≤ x.num * y.den + -y.num * x.den ∧ x.num * y.den + -y.num * x.den ≤ 9200000000000000000) ∧ (-9200000000000000000 ≤ x.num * y.den ∧ x.num * y.den ≤ 9200000000000000000) ∧ (-9200000000000000000 ≤ -y.num * x.den ∧ -y.num * x.den ≤ 9200000000000000000) ∧ 0 < x.den * y.den ∧ x.den * y.den ≤ 9200000000000000000) ∧ (-1000000000000 ≤ y.num ∧ y.num ≤ 1000000000000) := by
  obtain ⟨h1, h2, _⟩ := valid_iff.1 hx
  obtain ⟨g1, g2, _⟩ := valid_iff.1 hy
  have a1 := mul_ab (a := x.num) (b := y.den) h2 (show 0 ≤ y.den ∧ y.den ≤ 1000000 by omega)
  have a2 := mul_ab (a := -y.num) (b := x.den) (A := 1000000000000) (by omega) (show 0 ≤ x.den ∧ x.den ≤ 1000000 by omega)
  have a3 := mul_ab (a := x.den) (b := y.den) (A := 1000000) (by omega) (show 0 ≤ y.den ∧ y.den ≤ 1000000 by omega)
  have a4 := Int.mul_pos (show 0 < x.den by omega) (show 0 < y.den by omega)
  omega
theorem cmp_bd {x y : Fr} (hx : validF x = true) (hy : validF y = true) : (-9200000000000000000 ≤ x.num * y.den ∧ x.num * y.den ≤ 9200000000000000000) ∧ (-9200000000000000000 ≤ y.num * x.den ∧ y.num * x.den ≤ 9200000000000000000) := by
  obtain ⟨h1, h2, _⟩ := valid_iff.1 hx
  obtain ⟨g1, g2, _⟩ := valid_iff.1 hy
  have a1 := mul_ab (a := x.num) (b := y.den) h2 (show 0 ≤ y.den ∧ y.den ≤ 1000000 by omega)
  have a2 := mul_ab (a := y.num) (b := x.den) g2 (show 0 ≤ x.den ∧ x.den ≤ 1000000 by omega)
  omega
theorem mset_hit {κ α : Type} [DecidableEq κ] (f : κ → Option α) (k : κ) (a : α) {z : Value} {val : α → Value} : ((mset f k a k).elim z val) = val a := by simp [mset]
end Go.Vk.Share
namespace Go.Vk.Share
open Go Go.Vk Go.Vk.Deed
section
variable {f x y : Fr} {l : List Fr} {ps : List Int} {i : Nat} {p : Int}
/-- All partial sums are in range. -/
def sumOk (l : List Fr) : Prop := ∀ i, i < l.length → okF (sumFr (l.take (i + 1))) = true
/-- Parts of a fraction. -/
def divL (f : Fr) (ps : List Int) : List Fr := ps.map fun p => nrm (f.num * p) (f.den * sumI ps)
theorem div_len : (divL f ps).length = ps.length := by simp [divL]
theorem div_get (hp : ps[i]? = some p) : (divL f ps)[i]? = some (nrm (f.num * p) (f.den * sumI ps)) := by simp [divL, hp]
theorem div_bad (hp : ps[i]? = some p) (h : okF (nrm (f.num * p) (f.den * sumI ps)) = false) : (divL f ps).all okF = false := by
  rw [List.all_eq_false]; exact ⟨_, List.mem_of_getElem? (div_get hp), by simp [h]⟩
theorem div_good (h : ∀ x ∈ (divL f ps).take ps.length, okF x = true) : (divL f ps).all okF = true := by
  rw [List.all_eq_true]; rwa [← div_len (f := f), List.take_length] at h
theorem div_step (hp : ps[i]? = some p) (h : ∀ x ∈ (divL f ps).take i, okF x = true) (hk : okF (nrm (f.num * p) (f.den * sumI ps)) = true) : ∀ x ∈ (divL f ps).take (i + 1), okF x = true := by
  intro x hx
  rw [List.take_add_one, div_get hp] at hx
  rcases List.mem_append.1 hx with g | g
  · exact h x g
  simp at g; rw [g]; exact hk
theorem div_snoc (hp : ps[i]? = some p) : (divL f ps).take i ++ [nrm (f.num * p) (f.den * sumI ps)] = (divL f ps).take (i + 1) := by
  rw [List.take_add_one, div_get hp]; rfl
theorem div_bdp (hf : validF f = true) (hp : 0 ≤ p ∧ p ≤ 1000) : -9200000000000000000 ≤ f.num * p ∧ f.num * p ≤ 9200000000000000000 := by
  have a1 := mul_ab (a := f.num) (b := p) (valid_iff.1 hf).2.1 hp; omega
theorem div_bds {s : Int} (hf : validF f = true) (hs : 0 < s ∧ s ≤ 40000) : 0 < f.den * s ∧ f.den * s ≤ 9200000000000000000 := by
  have a1 := mul_ab (a := f.den) (b := s) (A := 1000000) (by have := (valid_iff.1 hf).1; omega) (show 0 ≤ s ∧ s ≤ 40000 by omega)
  have a2 := Int.mul_pos (show 0 < f.den by have := (valid_iff.1 hf).1; omega) hs.1
  omega
end
end Go.Vk.Share

/- Deeds, as plain mathematics, part 12: what an owner has rests on the lineage alone. No program in sight. -/
namespace Go.Vk.Deed
open Go Go.Vk

/-- Two states are the same for an owner. -/
structure Vw (s s' : St) (o : Int) : Prop where
  h : s'.holds o = s.holds o
  src : ∀ i, s'.src o i = s.src o i
  ls : s'.leases.filter (fun x => decide (x.frm = o ∨ x.to = o)) = s.leases.filter fun x => decide (x.frm = o ∨ x.to = o)
  ps : s'.pledges.filter (fun x => decide (x.frm = o ∨ x.to = o)) = s.pledges.filter fun x => decide (x.frm = o ∨ x.to = o)
section
variable {s s' s1 : St} {o a c k : Int} {N : List Int} {l t : List D} {x : D}
theorem Vw.refl (s : St) (o : Int) : Vw s s o := ⟨rfl, fun _ => rfl, rfl, rfl⟩
theorem Vw.symm (h : Vw s s' o) : Vw s' s o := ⟨h.h.symm, fun i => (h.src i).symm, h.ls.symm, h.ps.symm⟩
theorem Vw.trans (h : Vw s s' o) (g : Vw s' s1 o) : Vw s s1 o := ⟨g.h.trans h.h, fun i => (g.src i).trans (h.src i), g.ls.trans h.ls, g.ps.trans h.ps⟩
abbrev Agr (N : List Int) (s s' : St) : Prop := ∀ o ∈ N, Vw s s' o
theorem sumF_in {α : Type} {p q : α → Bool} {f : α → Int} {l : List α} (h : ∀ x, p x = true → q x = true) : sumF p f l = sumF p f (l.filter q) := by
  unfold sumF
  rw [List.filter_filter]
  congr 2
  refine List.filter_congr fun x _ => ?_
  cases hp : p x with
  | false => rfl
  | true => rw [h x hp]; rfl
theorem Vw.out (h : Vw s s' o) (d : Int) : outS s' o d = outS s o d := by
  unfold outS
  rw [sumF_in (q := fun x : Ls => decide (x.frm = o ∨ x.to = o)) (l := s'.leases) (fun x hx => by simp at hx; simp [hx.1]), h.ls, ← sumF_in (fun x hx => by simp at hx; simp [hx.1])]
theorem Vw.inn (h : Vw s s' o) (d : Int) : inS s' o d = inS s o d := by
  unfold inS
  rw [sumF_in (q := fun x : Ls => decide (x.frm = o ∨ x.to = o)) (l := s'.leases) (fun x hx => by simp at hx; simp [hx.1]), h.ls, ← sumF_in (fun x hx => by simp at hx; simp [hx.1])]
theorem Vw.pl (h : Vw s s' o) : pledged s' o = pledged s o := by
  unfold pledged
  rw [sumF_in (q := fun x : Pl => decide (x.frm = o ∨ x.to = o)) (l := s'.pledges) (fun x hx => by simp at hx; simp [hx]), h.ps, ← sumF_in (fun x hx => by simp at hx; simp [hx])]
theorem Vw.free (h : Vw s s' o) (d : Int) : Deed.free s' o d = Deed.free s o d := by unfold Deed.free; rw [h.h, h.out, h.pl]
theorem Vw.acc (h : Vw s s' o) (d : Int) : Deed.acc s' o d = Deed.acc s o d := by unfold Deed.acc; rw [h.h, h.out, h.pl, h.inn]
theorem Vw.ids (h : Vw s s' o) : idsS s' o = idsS s o := by unfold idsS; exact List.filter_congr fun i _ => by rw [h.src]
/-- A pledge in force is found in what is of its owner. -/
theorem plOf_in (hp : ∀ p ∈ s.pledges, p.deed = k → p.frm = o) : plOf s k = (s.pledges.filter fun x => decide (x.frm = o ∨ x.to = o)).find? fun p => decide (p.deed = k) := by
  unfold plOf
  rw [List.find?_filter]
  generalize s.pledges = L at *
  induction L with
  | nil => rfl
  | cons z L ih =>
    have h1 := ih fun p hp' => hp p (List.mem_cons_of_mem _ hp')
    by_cases e : z.deed = k
    · have := hp z (List.mem_cons_self ..) e
      rw [List.find?_cons_of_pos (by simpa using e), List.find?_cons_of_pos (by simp [e, this])]
    rw [List.find?_cons_of_neg (by simpa using e), List.find?_cons_of_neg (by simp [e]), h1]
theorem Vw.plOf (h : Vw s s' o) (hp : ∀ p ∈ s.pledges, p.deed = k → p.frm = o) (hp' : ∀ p ∈ s'.pledges, p.deed = k → p.frm = o) : Deed.plOf s' k = Deed.plOf s k := by
  rw [plOf_in hp, plOf_in hp', h.ps]
theorem mem_nm1 {y : D} : o ∈ nm1 y ↔ o ∈ y.heirs ∨ (0 < y.frm ∧ o = y.frm) ∨ (0 < y.to ∧ o = y.to) := by
  unfold nm1
  by_cases h1 : 0 < y.frm <;> by_cases h2 : 0 < y.to <;> simp [h1, h2, or_assoc]
/-- What a deed names that is done, with regard to its register: the pledge that it redeems is the register's. -/
structure Nmd (l : List D) (x : D) (s : St) : Prop where
  pl : x.kind = 6 ∨ x.kind = 7 → ∀ p ∈ s.pledges, p.deed = x.of → p.frm = (ofD l x).frm ∧ p.to = (ofD l x).to ∧ 1 ≤ p.frm ∧ 1 ≤ p.to
  fr : x.kind = 6 ∨ x.kind = 7 → 0 < (ofD l x).frm ∨ ∀ p ∈ s.pledges, p.deed ≠ x.of
theorem Nmd.in (h : Nmd l x s) (k : x.kind = 6 ∨ x.kind = 7) {p : Pl} (hp : p ∈ s.pledges) (e : p.deed = x.of) : p.frm ∈ nm l x ∧ p.to ∈ nm l x := by
  have h1 := h.pl k p hp e
  rw [nm, mem_nm1, mem_nm1]
  exact ⟨.inr (.inl ⟨by omega, h1.1⟩), .inr (.inr ⟨by omega, h1.2.1⟩)⟩
theorem Nmd.plOf (h : Nmd l x s) (h' : Nmd l x s') (k : x.kind = 6 ∨ x.kind = 7) (hA : Agr (nm l x) s s') : Deed.plOf s' x.of = Deed.plOf s x.of := by
  have e0 : ∀ {s : St}, (∀ p ∈ s.pledges, p.deed ≠ x.of) → Deed.plOf s x.of = none := fun hn => List.find?_eq_none.2 fun p hp => by simpa using hn p hp
  by_cases hf : 0 < (ofD l x).frm
  · refine (hA (ofD l x).frm (by rw [nm, mem_nm1]; exact .inr (.inl ⟨hf, rfl⟩))).plOf (fun p hp e => (h.pl k p hp e).1) fun p hp e => (h'.pl k p hp e).1
  rw [e0 ((h.fr k).resolve_left hf), e0 ((h'.fr k).resolve_left hf)]
end
end Go.Vk.Deed

/- Deeds, as plain mathematics, part 13: registers with one deed more; the lineage suffices. No program in sight. -/
namespace Go.Vk.Deed
open Go Go.Vk

section
variable {l c t : List D} {x v y : D} {known day o : Int}
theorem right_more (h : rightD l = true) (hf : follows l x = 0) : rightD (l ++ [x]) = true := by
  rw [right_iff] at *
  intro j hj
  rw [List.length_append, List.length_singleton] at hj
  rcases Nat.lt_or_ge j l.length with g | g
  · rw [chkAt_get (x := l[j]) (by rw [List.getElem?_append_left g]; exact List.getElem?_eq_getElem g), List.take_append_of_le_length (by omega)]
    have := h j g
    rwa [chkAt_get (List.getElem?_eq_getElem g)] at this
  obtain rfl : j = l.length := by omega
  rw [chkAt_get (x := x) (by simp), List.take_append_of_le_length (Nat.le_refl _), List.take_length]; exact hf
theorem append_iff : (appendD l x).1 = 0 ↔ rightD l = true ∧ follows l x = 0 := by
  unfold appendD rightD
  by_cases h : (chkD l).2 = 0
  · rw [if_neg (by simpa using h)]
    by_cases g : follows l x = 0
    · rw [if_neg (by simpa using g)]; simp [h, g]
    rw [if_pos g]; simp [g]
  rw [if_pos h]; simp [h]
theorem append_right (h : (appendD l x).1 = 0) : rightD (l ++ [x]) = true := right_more (append_iff.1 h).1 (append_iff.1 h).2
theorem count_sorted (h : rightD l = true) : (counting l known).Pairwise fun a b => a.day ≤ b.day := (order_sorted (asc_filter (right_asc h) _)).imp fun h => by unfold Bef at h; omega
abbrev inLin (l : List D) (known day o : Int) (x : D) : Bool := (lineageD l known day o).contains x.id
theorem on_done (hR : rightD l = true) : onD l known day = play ((counting l known).filter fun x => decide (x.day ≤ day)) := by rw [onD, if_pos hR]; rfl
/-! ### what is found of an owner -/
def foundS (o : Int) (f : Int) (l : List Acc) : Int := l.foldl (fun f a => if a.owner = o then a.holds - a.out + a.inn else f) f
end

/-! ### sums over all owners -/
section
variable {l : List D} {known day o : Int} {s : St}
theorem sum_add {f g : Int → Int} {L : List Int} : sumI (L.map fun o => f o + g o) = sumI (L.map f) + sumI (L.map g) := by
  induction L with
  | nil => rfl
  | cons x L ih => rw [List.map_cons, List.map_cons, List.map_cons, sumI_cons, sumI_cons, sumI_cons, ih]; omega
/-- What is told of one owner each adds up. -/
theorem sum_parts {α : Type} {r : α → Int} {f : α → Int} {p : α → Prop} [DecidablePred p] : ∀ {L : List α}, (∀ x ∈ L, 1 ≤ r x ∧ r x ≤ 40) → sumI (owners.map fun o => sumF (fun x => decide (r x = o ∧ p x)) f L) = sumF (fun x => decide (p x)) f L := by
  intro L
  induction L with
  | nil => intro _; exact sum_zero fun _ _ => rfl
  | cons x L ih =>
    intro h
    have h1 := ih fun y hy => h y (List.mem_cons_of_mem _ hy)
    have h2 := h x (List.mem_cons_self ..)
    have e : sumI (owners.map fun o => sumF (fun x => decide (r x = o ∧ p x)) f (x :: L)) = sumI (owners.map fun o => sumF (fun x => decide (r x = o ∧ p x)) f L + if o = r x then (if p x then f x else 0) else 0) := sum_same fun o _ => by
      rw [sumF_cons, Int.add_comm]
      congr 1
      by_cases e : r x = o
      · by_cases g : p x
        · simp [e, g]
        simp [e, g]
      simp [e, Ne.symm e]
    rw [e, sum_bump owners_nd (mem_owners.2 h2), h1, sumF_cons]
    simp only [decide_eq_true_eq]; omega
theorem uses_sum (hI : StI s l) : sumI (owners.map fun o => s.holds o - outS s o day + inS s o day) = enters l := by
  have e : sumI (owners.map fun o => s.holds o - outS s o day + inS s o day) + sumI (owners.map fun o => outS s o day) = sumI (owners.map s.holds) + sumI (owners.map fun o => inS s o day) := by
    rw [← sum_add, ← sum_add]; exact sum_same fun o _ => by omega
  have h1 : sumI (owners.map fun o => outS s o day) = sumF (fun x : Ls => decide (x.day ≤ day ∧ day ≤ x.stop)) (·.parts) s.leases := sum_parts (r := fun x : Ls => x.frm) (p := fun x : Ls => x.day ≤ day ∧ day ≤ x.stop) fun x hx => (hI.lp x hx).2.1
  have h2 : sumI (owners.map fun o => inS s o day) = sumF (fun x : Ls => decide (x.day ≤ day ∧ day ≤ x.stop)) (·.parts) s.leases := sum_parts (r := fun x : Ls => x.to) (p := fun x : Ls => x.day ≤ day ∧ day ≤ x.stop) fun x hx => (hI.lp x hx).2.2.1
  have := hI.bal.tot
  omega
/-- The deeds of a register that are done by a day. -/
abbrev playD (l : List D) (known day : Int) : List D := (counting l known).filter fun x => decide (x.day ≤ day)
theorem play_d (hR : rightD l = true) : PlayL (playD l known day) := (right_play hR).filter _
theorem on_sti (hR : rightD l = true) : StI (onD l known day) (playD l known day) := by rw [on_done hR]; exact play_inv _ rfl (play_d hR)
theorem on_nn (hR : rightD l = true) : NN (onD l known day) day := by
  rw [on_done hR]
  exact play_nn _ rfl (play_d hR) ((count_sorted hR).filter _) day fun x hx => by simpa using (List.mem_filter.1 hx).2
def enteredBy (l : List D) (known day : Int) : Int := sumI ((counting l known).map fun x => if x.kind = 1 ∧ x.day ≤ day then x.parts else 0)
theorem entered_play (l : List D) (known day : Int) : enters (playD l known day) = enteredBy l known day := by
  unfold enters enteredBy playD
  generalize counting l known = c
  induction c with
  | nil => rfl
  | cons x c ih =>
    rw [List.map_cons, sumI_cons, List.filter_cons, ← ih]
    by_cases h : x.day ≤ day
    · rw [if_pos (by simpa using h), List.map_cons, sumI_cons]; simp [h]
    rw [if_neg (by simpa using h)]; simp [h]
theorem law_sums (hR : rightD l = true) : totalD l known day = enteredBy l known day ∧ sumI (owners.map fun o => (accOf l known day o).holds) = enteredBy l known day ∧ sumI (owners.map (usesD l known day)) = enteredBy l known day ∧
    ∀ o, own o = true → (accOf l known day o).owner = o ∧ 0 ≤ (accOf l known day o).pledged ∧ 0 ≤ (accOf l known day o).out ∧ 0 ≤ (accOf l known day o).inn ∧ 0 ≤ freeD l known day o ∧ freeD l known day o = (accOf l known day o).holds - (accOf l known day o).pledged - (accOf l known day o).out := by
  have hI := on_sti (known := known) (day := day) hR
  have hN := on_nn (known := known) (day := day) hR
  have hacc : ∀ o, own o = true → accOf l known day o = acc (onD l known day) o day := fun o ho => by rw [accOf, if_pos ⟨ho, hR⟩]
  have hown : ∀ o ∈ owners, own o = true := fun o ho => own_iff.2 (mem_owners.1 ho)
  refine ⟨?_, ?_, ?_, fun o ho => ?_⟩
  · rw [totalD, ← entered_play]; exact hI.bal.tot
  · rw [← entered_play, ← hI.bal.tot]; exact sum_same fun o ho => by rw [hacc o (hown o ho)]; rfl
  · rw [← entered_play, ← uses_sum (day := day) hI]; exact sum_same fun o ho => by unfold usesD; rw [hacc o (hown o ho)]; rfl
  unfold freeD
  rw [hacc o ho]
  have h1 := hN.fr o day (Int.le_refl _)
  have hp : ∀ y ∈ (onD l known day).leases, 0 ≤ y.parts := fun y hy => by have := (hI.lp y hy).1; omega
  refine ⟨rfl, sumF_nn fun y hy => by have := (hI.pp y hy).1; omega, out_nn hp o, sumF_nn hp, ?_, by simp only [acc]; omega⟩
  simp only [acc]; exact h1
end
end Go.Vk.Deed

/- What the theorems of chapters 1 and 2 rest on. No program in sight. -/
namespace Go.Vk.Share
open Go Go.Vk Go.Vk.Deed
theorem minus_valid {x y : Fr} (hx : validF x = true) (hy : validF y = true) (h : okF (minus x y) = true) : validF (minus x y) = true := nrm_valid (minus_bd hx hy).1.2.2.2.1 h
theorem cmpF_neg {x : Fr} : cmpF x ⟨1, 5040⟩ < 0 ↔ x.num * 5040 < 1 * x.den := cmpI_neg
theorem cmpI_pos {a b : Int} : 0 < cmpI a b ↔ b < a := by unfold cmpI; split <;> (try split) <;> simp <;> omega
theorem cmpF_pos {x : Fr} : 0 < cmpF x ⟨-1, 5040⟩ ↔ -1 * x.den < x.num * 5040 := cmpI_pos
def shortD (x : D) : Bool := decide (x.heirs.length ≤ 12) && decide (x.shares.length ≤ 12)
def deedsB (l : List D) : Bool := decide (l.length ≤ 20) && l.all shortD
theorem deeds_no {rs : List Rw} {i : Nat} {a : Rw} (ha : rs[i]? = some a) (h : shortD a.1 = false) : deedsB (dl rs) = false := by
  have : (dl rs).all shortD = false := by
    rw [List.all_eq_false]; exact ⟨a.1, List.mem_of_getElem? (dl_get ha), by simp [h]⟩
  rw [deedsB, this, Bool.and_false]
theorem deeds_yes {rs : List Rw} (h : ∀ x ∈ rs, shortD x.1 = true) : deedsB (dl rs) = decide ((rs.length : Int) ≤ 20) := by
  have : (dl rs).all shortD = true := by
    rw [List.all_eq_true]
    intro x hx
    obtain ⟨a, ha, rfl⟩ := List.mem_map.1 hx
    exact h a ha
  rw [deedsB, this, Bool.and_true, dl_len]
  exact decide_eq_decide.2 (by omega)
theorem all_step9 {p : Rw → Bool} {l : List Rw} {i : Nat} {a : Rw} (h : ∀ x ∈ l.take i, p x = true) (ha : l[i]? = some a) (hp : p a = true) : ∀ x ∈ l.take (i + 1), p x = true := by
  intro x hx
  rw [List.take_add_one, ha] at hx
  rcases List.mem_append.1 hx with g | g
  · exact h x g
  simp at g; subst g; exact hp
def inhD : List D := [⟨1, 0, 0, 1, 0, 1, 10080, 0, 0, [], []⟩, ⟨2, 4, 5, 3, 1, 0, 0, 0, 0, [2, 3, 4], [1, 1, 2]⟩]
theorem inh_chk : chkD inhD = (0, 0) := by decide +kernel
theorem inh_u4 : usesD inhD 5 4 4 = 5040 := by decide +kernel
theorem inh_u1 : usesD inhD 4 4 1 = 10080 := by decide +kernel
theorem inh_u2 : usesD inhD 5 4 2 = 2520 := by decide +kernel
theorem inh_t : totalD inhD 5 4 = 10080 := by decide +kernel
theorem nrm_one : nrm 5040 5040 = ⟨1, 1⟩ := by decide +kernel
section
variable {l : List D} {known day o : Int}
theorem uses_nn (l : List D) (known day o : Int) : 0 ≤ usesD l known day o := by
  unfold usesD
  by_cases h : own o = true ∧ rightD l = true
  · obtain ⟨_, h2, h3, h4, h5, h6⟩ := (law_sums (known := known) (day := day) h.2).2.2.2 o h.1
    omega
  rw [accOf, if_neg h]; simp
theorem entered_bd (hR : rightD l = true) : 0 ≤ enteredBy l known day ∧ enteredBy l known day ≤ 1000000000 := by
  have h1 := (play_d (known := known) (day := day) hR).e
  have h2 := (law_sums (known := known) (day := day) hR).2.2.1
  have h3 := sum_nn (l := owners) (f := usesD l known day) fun o _ => uses_nn l known day o
  rw [entered_play] at h1
  omega
theorem uses_le (l : List D) (known day o : Int) : usesD l known day o ≤ 1000000000 := by
  by_cases h : own o = true ∧ rightD l = true
  · have h1 := (law_sums (known := known) (day := day) h.2).2.2.1
    have h2 := le_sum (l := owners) (f := usesD l known day) (fun o _ => uses_nn l known day o) (mem_owners.2 (own_iff.1 h.1))
    have h3 := entered_bd (known := known) (day := day) h.2
    omega
  unfold usesD; rw [accOf, if_neg h]; simp
end
section
variable {u : Int} {l : List Int} {i : Nat} {p y : Int}
theorem ex_valid (hall : (divL (nrm u 5040) l).all okF = true) (hp : l[i]? = some p) (hs : 0 < sumI l) : validF (nrm ((nrm u 5040).num * p) ((nrm u 5040).den * sumI l)) = true :=
  nrm_valid (Int.mul_pos (nrm_pos (by omega)) hs) (List.all_eq_true.1 hall _ (List.mem_of_getElem? (div_get hp)))
theorem take_sum (hy : l[i]? = some y) : sumI (l.take (i + 1)) = sumI (l.take i) + y := by rw [List.take_add_one, hy]; exact Go.Vk.Deed.sumI_snoc
end
end Go.Vk.Share
