/- Texts joined for claims: VkSortF, VkDeedSort, VkMarkOpen, VkMarkRun, VkMarkRun2, VkMarkRun4, VkMarkBench, VkMarkZeta, VkMarkGive, VkDeedRoll, VkDeedDo, VkDeedWhole, VkDeedPlay, VkDeedOn, VkDeedAsk, VkMarkSeat, VkMarkText, VkMarkZeta2, VkMarkZeta3, VkMarkGive2, VkMarkAsg, VkMarkCmp, VkMarkBest, VkMarkRun3, VkMarkEx, VkRowMark, VkMarkSpl, VkMarkTxt, VkMarkRef, VkMarkRef3, VkMarkMeets, VkMarkEith, VkMarkSure, VkMarkRest, VkMarkPerm, VkMarkRas, VkMarkRef2, VkMarkLaw, VkRowZ. -/
import Derived.Test.YtaigapdghhoncaaGreatDoorK1261470d5f
import Derived.Test.YtaigapdghhoncaaGreatDoorK92608acdbc
import Derived.Shelf.SlSortCmp.WholeK
import Derived.Shelf.SlSortCmp.Whole1
import Derived.Shelf.SlSortCmp.NoneTotal
import Derived.Test.YtaigapdghhoncaaGreatDoorKc2c3a9d66c
import Derived.HandedShaped
import Derived.LaidLaws
import Derived.Shelf.Vars
import Derived.Lib.Join
import Derived.Lib.ItoaMem
import Derived.Lib.AtoiAll
import Derived.Stop.LaidErr
set_option linter.unusedVariables false
set_option linter.unusedSimpArgs false
set_option linter.unusedSectionVars false
namespace Go.Vk
open Go Go.Sort Go.Proofs
set_option linter.unusedSectionVars false

theorem grow_of {w w' : World} (h : Le w w') : ∃ (q : Nat) (os : Array Obj), w' = grow (w.drewN q) os := by
 obtain ⟨heap, tape, drawn, os, output⟩ := w
 obtain ⟨heap', tape', drawn', os', output'⟩ := w'
 obtain ⟨h1, h2, h3, h4, h5, h6⟩ := h
 simp only at h1 h2 h3 h4 h5 h6
 subst h1; subst h2; subst h3
 refine ⟨drawn' - drawn, heap'.extract heap.size heap'.size, ?_⟩
 have e1 : heap' = heap ++ heap'.extract heap.size heap'.size := by
  apply Array.ext_getElem?
  intro i
  rw [Array.getElem?_append]
  split
  ·next hi => exact h5 i hi id
  next hi =>
  rw [Array.getElem?_extract]
  by_cases hi2 : i < heap'.size
  ·have e2 : heap.size + (i - heap.size) = i := by omega
   rw [if_pos (by omega), e2]
  rw [if_neg (by omega), Array.getElem?_eq_none (by omega)]
 have e3 : drawn + (drawn' - drawn) = drawn' := by omega
 unfold grow World.drewN
 simp only [e3]
 congr 1
section
variable {α : Type} [Inhabited α] {w : World} {b : Nat} {c : List Value} {T : TypeId} {enc : α → Value} {l : List α}
theorem holds_blkG (h : Blk w b c T) (hc : c.take l.length = l.map enc) : Holds enc w b 0 l.toArray := by
 intro j hj
 have hj' : j < l.length := by simpa using hj
 refine ⟨?_, frozen_at h _ _⟩
 rw [Nat.zero_add]
 refine h.cell ?_
 have h1 : (c.take l.length)[j]? = some (enc l.toArray[j]!) := by
  rw [hc]
  simp [hj']
 rw [List.getElem?_take, if_pos hj'] at h1
 exact h1
theorem putRow_blkG (h : Blk w b c T) (hl : l.length ≤ c.length) : Blk (Sort.putRow enc w b 0 l.toArray) b (l.map enc ++ c.drop l.length) T := by
 unfold Blk at h ⊢
 unfold Sort.putRow mapBlock
 simp only [Array.getElem?_modify, if_true, h, Option.map_some, onCells]
 congr 2
 apply Array.ext_getElem?
 intro k
 simp only [putCells, Array.getElem?_mapIdx, List.getElem?_toArray]
 by_cases hk : k < l.length
 ·have hkc : k < c.length := by omega
  rw [List.getElem?_append_left (by simpa using hk)]
  simp [hkc, hk]
 rw [List.getElem?_append_right (by simp; omega)]
 have : ¬ k < l.toArray.size := by simpa using hk
 have hne : ¬ (0 ≤ k ∧ k < 0 + l.toArray.size) := by simpa using hk
 simp only [hne, if_false, List.length_map, List.getElem?_drop]
 have e : l.length + (k - l.length) = k := by omega
 rw [e]
 cases c[k]? <;> rfl
theorem keep_putRowG (w : World) (b : Nat) (d : Array α) : Keep (· = b) w (Sort.putRow enc w b 0 d) := by
 refine ⟨rfl, rfl, rfl, by simp [Sort.putRow, mapBlock], fun k _ hne => ?_, Nat.le_refl _⟩
 have hne' : ¬ b = k := fun e => hne e.symm
 simp [Sort.putRow, mapBlock, Array.getElem?_modify, hne']
theorem le_aheadG (w : World) (n : Nat) : Le w (Sort.ahead w n) := ⟨rfl, rfl, rfl, Nat.le_refl _, fun _ _ _ => rfl, Nat.le_add_right _ _⟩
theorem le_growG (w : World) (os : Array Obj) : Le w (grow w os) := ⟨rfl, rfl, rfl, by simp, fun _ h _ => heap_grow_old w os h, Nat.le_refl _⟩
theorem flatK_list (E : Elt α) (l : List α) : (flatK E.enc E.sz l.toArray).toList = l.flatMap E.enc := by
 apply List.ext_getElem?
 intro t
 have hlen := flatMap_enc_length E l
 by_cases ht : t < l.length * E.sz
 ·have hp := E.pos
  have hq : t / E.sz < l.length := (Nat.div_lt_iff_lt_mul hp).2 ht
  have hr : t % E.sz < E.sz := Nat.mod_lt _ hp
  have ha : l[t / E.sz]? = some l[t / E.sz] := List.getElem?_eq_getElem hq
  have hx : (E.enc l[t / E.sz])[t % E.sz]? = some ((E.enc l[t / E.sz])[t % E.sz]'(by rw [E.len]; exact hr)) := List.getElem?_eq_getElem _
  have h1 := flatMap_enc_get E l _ _ _ _ ha hx
  have e : t / E.sz * E.sz + t % E.sz = t := by rw [Nat.mul_comm]; exact Nat.div_add_mod t E.sz
  rw [e] at h1
  rw [h1, Array.getElem?_toList]
  have hs : t < (flatK E.enc E.sz l.toArray).size := by simpa using ht
  have h2 := get_flatK E.enc E.sz l.toArray t (by simpa using ht)
  rw [getElem!_pos _ t hs] at h2
  rw [Array.getElem?_eq_getElem hs, h2]
  congr 1
  rw [getElem!_pos l.toArray (t / E.sz) (by simpa using hq)]
  simp only [List.getElem_toArray]
  rw [getElem!_pos (E.enc l[t / E.sz]) (t % E.sz) (by rw [E.len]; exact hr)]
 rw [List.getElem?_eq_none (by simpa using Nat.not_lt.1 ht), List.getElem?_eq_none (by rw [hlen]; omega)]
end

section
variable {α : Type} [Inhabited α] {P : Program} {f g : FuncId} {w : World} {v : Value} {l : List α} {E : Elt α} {cf : α → α → Int} {cb : Array Value}
theorem perm_list {d d' : Array α} (h : PermIn 0 d.size d d') : d'.toList.Perm d.toList := by
 obtain ⟨h1, _, h3⟩ := h
 have e1 : (d'.extract 0 d.size).toList = d'.toList := by rw [← h1]; simp
 have e2 : (d.extract 0 d.size).toList = d.toList := by simp
 rwa [e1, e2] at h3
theorem sorted_list {lt : α → α → Bool} {d : Array α} (h : SortedIn lt 0 d.size d) : d.toList.Pairwise fun x y => lt y x = false := by
 rw [List.pairwise_iff_getElem]
 intro i j hi hj hij
 have hi' : i < d.size := by simpa using hi
 have hj' : j < d.size := by simpa using hj
 have := h i j (Nat.zero_le _) hij hj'
 rw [getElem!_pos d j hj', getElem!_pos d i hi'] at this
 simpa using this
abbrev SortedL (cf : α → α → Int) (l : List α) : Prop := l.Pairwise fun x y => ltOf cf y x = false
theorem sortK_cl (h : ∀ (blk off cap : Nat) (d : Array α) (w : World), CmpLays P g cb E.enc E.sz cf blk off d.size w → HoldsK E.enc E.sz w blk off d → blk < w.heap.size → d.size < 4611686018427387904 →
   Calls P f #[.slice (some ⟨blk, off, none⟩) d.size cap, .func (.func g) #[] cb] w fun e w' => e = .returned (.tuple #[]) ∧ ∃ d' n os, PermIn 0 d.size d d' ∧ SortedIn (ltOf cf) 0 d.size d' ∧ w' = sortWorldK E.enc E.sz w blk off n d' os)
  (hn : ∀ (p : Option Addr) (cap : Nat) (fv : Value) (w : World), Calls P f #[.slice p 0 cap, fv] w fun e w' => e = .returned (.tuple #[]) ∧ w' = w)
  (hcmp : ∀ x y w1, Cl P g (#[.agg (E.enc x).toArray, .agg (E.enc y).toArray] ++ cb) w1 fun v w2 => v = .int .i64 (cf x y) ∧ Le w1 w2)
  (S : Own (vec E v l).fp w w [vec E v l]) (hl : l.length < 4611686018427387904) :
  Cl P f #[v, .func (.func g) #[] cb] w fun _ w' => ∃ l', l'.Perm l ∧ SortedL cf l' ∧ Own (vec E v l).fp w w' [vec E v l'] := by
 rcases S.at 0 rfl with ⟨rfl, rfl⟩ | ⟨b, cap, c, rfl, h1, h2, h3, h4, hb⟩
 ·exact (hn none 0 _ w).mono fun e w' ⟨he, hw⟩ => ⟨_, he, [], .refl _, .nil, by subst hw; exact S⟩
 have hcl : CmpLays P g cb E.enc E.sz cf b 0 l.toArray.size w := fun m os dk _ x y =>
  Calls.mono (hcmp x y _) fun e w' ⟨v, he, hv, hle⟩ => ⟨by rw [he, hv], grow_of hle⟩
 have hlenE := flatMap_enc_length E l
 have hH : HoldsK E.enc E.sz w b 0 l.toArray := by
  unfold HoldsK
  have := holds_blkG (enc := id) (l := l.flatMap E.enc) hb (by rw [hlenE, h4, List.map_id])
  rwa [← flatK_list E l, Array.toArray_toList] at this
 refine (h b 0 cap l.toArray w hcl hH hb.lt (by simpa using hl)).mono fun e w' ⟨he, d', n, os, hp, hs, hw⟩ => ⟨_, he, d'.toList, by simpa using perm_list hp, ?_, ?_⟩
 ·have e1 : d'.size = l.toArray.size := hp.1
  rw [← e1] at hs
  exact sorted_list hs
 subst hw
 have hpl : d'.toList.length = l.length := by have := hp.1; simpa using this
 have hfl := flatMap_enc_length E d'.toList
 have hcap : d'.toList.length * E.sz ≤ c.length := by rw [hpl, h3]; exact Nat.mul_le_mul_right _ h1
 have hb1 : Blk (Sort.ahead w n) b c E.T := hb
 have hb2 := putRow_blkG (enc := id) (l := d'.toList.flatMap E.enc) hb1 (by rw [hfl]; exact hcap)
 have e2 : (d'.toList.flatMap E.enc).toArray = flatK E.enc E.sz d' := by rw [← flatK_list E d'.toList, Array.toArray_toList]
 rw [List.map_id, e2] at hb2
 have hb3 := Blk.keep (X := nob) hb2 (le_growG _ os) id
 have hk : Keep (· = b) w (sortWorldK E.enc E.sz w b 0 n d' os) :=
  ((le_aheadG w n).of_le.trans (keep_putRowG (enc := id) _ b _)).trans (le_growG _ os).of_le
 refine S.turn 0 rfl hk (fun bb _ e => ⟨_, _, by subst e; rfl⟩) ?_ fun bb hbb => .inl hbb
 refine .inr ⟨b, cap, _, by rw [hpl], by rw [hpl]; exact h1, h2, ?_, ?_, hb3⟩
 ·rw [List.length_append, List.length_drop, hfl]; omega
 rw [← hfl]; exact List.take_left
end
end Go.Vk

namespace Go.Vk.Deed
open Go Go.Vk Go.Vk.Flow Go.Sort Go.Proofs

def cmpI (a b : Int) : Int := if a < b then -1 else if b < a then 1 else 0
def orI (l : List Int) : Int := (l.find? fun x => decide (x ≠ 0)).getD 0
def cfD (a b : Rw) : Int := orI [cmpI a.1.day b.1.day, cmpI a.1.id b.1.id]
theorem lt_I (a b : Int) : ltOf cmpI a b = decide (a < b) := by
 unfold ltOf cmpI
 split
 ·next h => simp [h]
 next h => split <;> simp [h]
instance : Inhabited D := ⟨⟨0, 0, 0, 0, 0, 0, 0, 0, 0, [], []⟩⟩
instance : Inhabited Lz := ⟨⟨0, 0, 0, 0, 0⟩⟩
instance : Inhabited Pl := ⟨⟨0, 0, 0, 0⟩⟩
end Go.Vk.Deed
namespace Go.Vk.Deed
open Go Go.Vk Go.Vk.Flow Go.Sort Go.Proofs
def Bef (a b : D) : Prop := a.day < b.day ∨ (a.day = b.day ∧ a.id < b.id)
abbrev Asc (l : List D) : Prop := l.Pairwise fun a b => a.id < b.id
section
variable {α : Type} {l done : List α} {i : Nat} {a x y : α}
end
end Go.Vk.Deed
namespace Go.Vk.Deed
open Go Go.Vk
end Go.Vk.Deed

namespace Go.Vk.Mark
open Go Go.Vk Go.Sort Go.Proofs
open Go.Vk.Deed (i64 rng rng_iff owners sumI cmpI lt_I)
theorem lt_Mk (a b : Mk) : ltOf (fun x y : Mk => cmpI x.owner y.owner) a b = decide (a.owner < b.owner) := lt_I a.owner b.owner
theorem swo_Mk : SWO (ltOf fun x y : Mk => cmpI x.owner y.owner) where
 irrefl x := by simp [lt_Mk]
 trans x y z h1 h2 := by simp [lt_Mk] at *; omega
 ntrans x y z h1 h2 := by simp [lt_Mk] at *; omega
theorem lt_Clm (a b : Clm) : ltOf (fun x y : Clm => cmpI x.owner y.owner) a b = decide (a.owner < b.owner) := lt_I a.owner b.owner
theorem swo_Clm : SWO (ltOf fun x y : Clm => cmpI x.owner y.owner) where
 irrefl x := by simp [lt_Clm]
 trans x y z h1 h2 := by simp [lt_Clm] at *; omega
 ntrans x y z h1 h2 := by simp [lt_Clm] at *; omega
instance : Inhabited Mk := ⟨⟨0, 0, 0, ⟨0, 0, 0, 0, 0, 0⟩⟩⟩
instance : Inhabited Clm := ⟨⟨0, 0⟩⟩
section
variable {b : Sm} {day : Int} {i : Nat} {m : Mk} {x : Fde} {g : KSg → Option Int}
abbrev fl (b : Sm) (day : Int) (i : Nat) : List Mk := (b.marks.take i).filter (onDay day)
theorem fl_yes (hm : b.marks[i]? = some m) (h : onDay day m = true) : fl b day (i + 1) = fl b day i ++ [m] := by
 unfold fl; rw [List.take_add_one, hm, List.filter_append]; simp [h]
theorem fl_no (hm : b.marks[i]? = some m) (h : onDay day m = false) : fl b day (i + 1) = fl b day i := by
 unfold fl; rw [List.take_add_one, hm, List.filter_append]; simp [h]
theorem fl_len : (fl b day i).length ≤ i := by
 have := List.length_filter_le (onDay day) (b.marks.take i)
 rw [List.length_take] at this
 show ((b.marks.take i).filter (onDay day)).length ≤ i
 omega
def Has (l : List Mk) (g : KSg → Option Int) : Prop := ∀ k : KSg, (g k).isSome = true ↔ ∃ m ∈ l, m.s = k.1
theorem has_nil : Has [] mnil := fun k => by simp [mnil]
theorem has_snoc {l : List Mk} (h : Has l g) (ho : SgOk m.s) : Has (l ++ [m]) (mset g ⟨m.s, ho⟩ m.owner) := fun k => by
 unfold mset
 by_cases e : k = ⟨m.s, ho⟩
 ·subst e; simp
 rw [if_neg e, h k]
 constructor
 ·rintro ⟨n, hn, g⟩; exact ⟨n, List.mem_append_left _ hn, g⟩
 rintro ⟨n, hn, g⟩
 rcases List.mem_append.1 hn with hn | hn
 ·exact ⟨n, hn, g⟩
 simp at hn; subst hn; exact absurd (Subtype.ext g.symm) e
theorem has_perm {l l' : List Mk} (h : Has l g) (hp : l'.Perm l) : Has l' g := fun k => by
 rw [h k]; exact ⟨fun ⟨n, hn, e⟩ => ⟨n, hp.mem_iff.2 hn, e⟩, fun ⟨n, hn, e⟩ => ⟨n, hp.mem_iff.1 hn, e⟩⟩
def diagF (i k : Nat) : Bool := decide (k / 5 = k % 5 ∧ k / 5 < i)
def fadeF (l : List Fde) (k : Nat) : Bool := decide (k / 5 = k % 5) || l.any fun f => decide (f.sign = (k / 5 : Nat) ∧ f.seen = (k % 5 : Nat))
theorem bd_congr {vm vo : Value} {f h : Nat → Bool} (e : ∀ k, k < 25 → f k = h k) : bdC vm vo f = bdC vm vo h := by
 unfold bdC; rw [tabB_congr e]
theorem diag_zero : ∀ k, k < 25 → (fun _ : Nat => false) k = diagF 0 k := fun k _ => by simp [diagF]
theorem diag_step (hi : i < 5) : ∀ k, k < 25 → upB (diagF i) (i * 5 + i) true k = diagF (i + 1) k := fun k hk => by
 unfold diagF
 by_cases e : k = i * 5 + i
 ·subst e; rw [upB_same]; symm; rw [decide_eq_true_iff]; omega
 rw [upB_ne e]; exact decide_eq_decide.2 (by omega)
theorem diag_all : ∀ k, k < 25 → diagF 5 k = fadeF [] k := fun k hk => by
 unfold diagF fadeF; simp; omega
theorem fade_step {l : List Fde} (hs : 0 ≤ x.sign ∧ x.sign ≤ 4) (hn : 0 ≤ x.seen ∧ x.seen ≤ 4) : ∀ k, k < 25 → upB (fadeF l) (x.sign.toNat * 5 + x.seen.toNat) true k = fadeF (l ++ [x]) k := fun k hk => by
 unfold fadeF
 by_cases e : k = x.sign.toNat * 5 + x.seen.toNat
 ·subst e
  rw [upB_same]
  symm
  rw [Bool.or_eq_true]
  right
  rw [List.any_eq_true]
  refine ⟨x, by simp, ?_⟩
  rw [decide_eq_true_iff]
  omega
 rw [upB_ne e, List.any_append]
 have : ([x].any fun f => decide (f.sign = ((k / 5 : Nat) : Int) ∧ f.seen = ((k % 5 : Nat) : Int))) = false := by
  simp only [List.any_cons, List.any_nil, Bool.or_false, decide_eq_false_iff_not]
  omega
 rw [this, Bool.or_false]
theorem fade_bd (h : fadeB x = true) (ho : FdOk x) : (0 ≤ x.sign ∧ x.sign ≤ 4) ∧ (0 ≤ x.seen ∧ x.seen ≤ 4) := by
 unfold fadeB at h
 rw [Bool.and_eq_true, rng_iff, decide_eq_true_iff] at h
 have := ho.g; have := ho.n
 unfold B8 at *; omega
theorem openE_bad {right : Bool} (h : ¬ checkS b = 0) : checkS b = openE b day right := by rw [openE, if_pos h]
theorem openE_arg {right : Bool} (h : checkS b = 0) (g : dayB day = false ∨ right = false) : 1 = openE b day right := by
 rw [openE, if_neg (fun k => k h), if_neg]
 rintro ⟨h1, h2⟩
 rcases g with g | g
 ·rw [h1] at g; cases g
 rw [h2] at g; cases g
theorem openE_ok {right : Bool} (h : checkS b = 0) (g : dayB day = true) (r : right = true) : openE b day right = 0 := by
 rw [openE, if_neg (fun k => k h), if_pos ⟨g, r⟩]
end
end Go.Vk.Mark

namespace Go.Vk.Mark
open Go Go.Vk
open Go.Vk.Deed (rng rng_iff owners sumI)
abbrev zeroMk : Mk := ⟨0, 0, 0, zeroSg⟩
def markV (b : Sm) (day o : Int) : Mk := if openE b day (ownB o) = 0 then (markOf b day o).getD zeroMk else zeroMk
def markE (b : Sm) (day o : Int) : Int := if openE b day (ownB o) = 0 then (if (markOf b day o).isSome = true then 0 else 5) else openE b day (ownB o)
def fitsE (b : Sm) (day : Int) (t : Sg) (o : Int) : Int := openE b day (ownB o && sightB t)
def fitsV (b : Sm) (day : Int) (t : Sg) (o : Int) : Bool := decide (fitsE b day t o = 0) && fitsO b day t o
section
variable {b : Sm} {day o e : Int} {m : Mk} {t : Sg} {r : Bool}
theorem openE_right (h : openE b day r = 0) : r = true := by
 unfold openE at h
 split at h
 ·next g => exact absurd h g
 split at h
 ·next g => exact g.2
 exact absurd h (by decide)
end
end Go.Vk.Mark

namespace Go.Vk.Mark
open Go Go.Vk
open Go.Vk.Deed (rng rng_iff owners sumI)
def fo (b : Sm) (day : Int) (t : Sg) (i : Nat) : List Int := (((force b day).take i).filter fun m => shows b m.s t).map (·.owner)
section
variable {b : Sm} {day o e x y : Int} {m n : Mk} {t : Sg} {i : Nat}
theorem fo_zero : fo b day t 0 = [] := by simp [fo]
theorem fo_yes (hm : (force b day)[i]? = some m) (h : shows b m.s t = true) : fo b day t (i + 1) = fo b day t i ++ [m.owner] := by
 unfold fo; rw [List.take_add_one, hm, List.filter_append]; simp [h]
theorem fo_no (hm : (force b day)[i]? = some m) (h : shows b m.s t = false) : fo b day t (i + 1) = fo b day t i := by
 unfold fo; rw [List.take_add_one, hm, List.filter_append]; simp [h]
theorem markOf_owner (h : markOf b day o = some m) : m.owner = o := by
 have := List.find?_some h
 simp at this; exact this.1
theorem owners_eq : ownersOf b day t = ((force b day).filter fun m => shows b m.s t).map (·.owner) := by
 unfold ownersOf force
 induction owners with
 | nil => rfl
 | cons o l ih =>
  rw [List.filter_cons, List.filterMap_cons]
  cases h : markOf b day o with
  | none => simp only [fitsO, h]; simpa using ih
  | some m =>
   simp only [fitsO, h, List.filter_cons]
   split
   ·rw [List.map_cons, markOf_owner h, ih]
   exact ih
theorem fo_all : fo b day t (force b day).length = ownersOf b day t := by rw [owners_eq, fo, List.take_length]
theorem fo_in (hm : (force b day)[i]? = some m) (h : shows b m.s t = true) : ∃ s, ownersOf b day t = fo b day t i ++ m.owner :: s := by
 refine ⟨(((force b day).drop (i + 1)).filter fun m => shows b m.s t).map (·.owner), ?_⟩
 have e : force b day = (force b day).take i ++ m :: (force b day).drop (i + 1) := by
  obtain ⟨h1, h2⟩ := List.getElem?_eq_some_iff.1 hm
  rw [← h2, ← List.drop_eq_getElem_cons h1, List.take_append_drop]
 rw [owners_eq, fo]
 conv => lhs; rw [e]
 rw [List.filter_append, List.map_append, List.filter_cons, if_pos h, List.map_cons]
theorem ownersOf_len : (ownersOf b day t).length ≤ 40 := by
 unfold ownersOf
 exact Nat.le_trans (List.length_filter_le ..) (by decide)
theorem pre_len {l s : List Int} (h : ownersOf b day t = l ++ o :: s) : l.length ≤ 40 := by
 have h1 := congrArg List.length h
 have h2 := ownersOf_len (b := b) (day := day) (t := t)
 rw [List.length_append, List.length_cons] at h1; omega
def aliO (b : Sm) (day x y : Int) : Option Sg := (markOf b day x).bind fun m => (markOf b day y).bind fun n => alike b m.s n.s
def aliR (b : Sm) (day x y : Int) : Int := openE b day (ownB x && ownB y)
def aliE (b : Sm) (day x y : Int) : Int := if aliR b day x y = 0 then (if ((markOf b day x).isSome && (markOf b day y).isSome) = true then 0 else 5) else aliR b day x y
def aliQ (b : Sm) (day x y : Int) : Option Sg := if aliR b day x y = 0 then aliO b day x y else none
def aprE (b : Sm) (x y : Sg) : Int := openE b 0 (clearB x && clearB y)
def aprN (b : Sm) (x y : Sg) (i : Nat) : Int := (((List.range i).filter fun p => (commonAt b x y p).isNone).length : Nat)
end
end Go.Vk.Mark

namespace Go.Vk.Mark
open Go Go.Vk
open Go.Vk.Deed (rng rng_iff owners sumI)
def claimB (c : Clm) : Bool := ownB c.owner && rng c.number 0 60
def sameO (a c : Clm) : Bool := decide (a.owner = c.owner)
section
variable {b : Sm} {day o e : Int} {t : Sg} {i : Nat} {l : List Sg} {cs : List Clm}
theorem foundE_2 (h : 60 < l.length) : 2 = foundE l := by unfold foundE; rw [if_pos h]
theorem foundE_1 (h : ¬ 60 < l.length) (g : l.all sightB = false) : 1 = foundE l := by unfold foundE; rw [if_neg h, if_neg (by simp [g])]
theorem foundE_0 (h : ¬ 60 < l.length) (g : l.all sightB = true) : 0 = foundE l := by unfold foundE; rw [if_neg h, if_pos g]
theorem found_ok (h : foundE l = 0) : l.length ≤ 60 ∧ ∀ t ∈ l, sightB t = true := by
 unfold foundE at h
 split at h
 ·cases h
 split at h
 ·next g1 g2 => exact ⟨by omega, List.all_eq_true.1 g2⟩
 cases h
theorem claimE_eq : claimE cs = if 10 < cs.length then 2 else if cs.all claimB = false then 1 else if twiceB sameO cs = true then 6 else 0 := rfl
theorem claimE_2 (h : 10 < cs.length) : 2 = claimE cs := by rw [claimE_eq, if_pos h]
theorem claimE_1 (h : ¬ 10 < cs.length) (g : cs.all claimB = false) : 1 = claimE cs := by rw [claimE_eq, if_neg h, if_pos g]
theorem claimE_6 (h : ¬ 10 < cs.length) (g : cs.all claimB = true) (k : twiceB sameO cs = true) : 6 = claimE cs := by
 rw [claimE_eq, if_neg h, if_neg (by rw [g]; simp), if_pos k]
theorem claimE_0 (h : ¬ 10 < cs.length) (g : cs.all claimB = true) (k : twiceB sameO cs = false) : 0 = claimE cs := by
 rw [claimE_eq, if_neg h, if_neg (by rw [g]; simp), if_neg (by rw [k]; simp)]
def rgE (b : Sm) (day : Int) (found : List Sg) (o : Int) : Int := fstE (openE b day (ownB o)) (foundE found)
theorem rgE_bad (hn : e ≠ 0) (h : e = openE b day (ownB o)) : e = rgE b day l o := by unfold rgE fstE; rw [← h, if_neg hn]
theorem rgE_ok (h : openE b day (ownB o) = 0) : foundE l = rgE b day l o := by unfold rgE fstE; rw [if_pos h]
theorem mem_owners (ho : ownB o = true) : o ∈ ownersOf b day t ↔ fitsO b day t o = true := by
 unfold ownersOf
 rw [List.mem_filter]
 exact ⟨fun h => h.2, fun h => ⟨mem_own.2 (rng_iff.1 ho), h⟩⟩
theorem sure_yes (ht : l[i]? = some t) (h : o ∈ ownersOf b day t) (hl : (ownersOf b day t).length = 1) (ho : ownB o = true) : sureN b day (l.take (i + 1)) o = sureN b day (l.take i) o + 1 ∧ perhapsN b day (l.take (i + 1)) o = perhapsN b day (l.take i) o := by
 unfold sureN perhapsN; rw [List.take_add_one, ht, List.filter_append, List.filter_append]; simp [(mem_owners ho).1 h, hl]
theorem sure_maybe (ht : l[i]? = some t) (h : o ∈ ownersOf b day t) (hl : ¬ (ownersOf b day t).length = 1) (ho : ownB o = true) : sureN b day (l.take (i + 1)) o = sureN b day (l.take i) o ∧ perhapsN b day (l.take (i + 1)) o = perhapsN b day (l.take i) o + 1 := by
 unfold sureN perhapsN; rw [List.take_add_one, ht, List.filter_append, List.filter_append]; simp [(mem_owners ho).1 h, hl]
theorem sure_no (ht : l[i]? = some t) (h : ¬ o ∈ ownersOf b day t) (ho : ownB o = true) : sureN b day (l.take (i + 1)) o = sureN b day (l.take i) o ∧ perhapsN b day (l.take (i + 1)) o = perhapsN b day (l.take i) o := by
 have h2 : fitsO b day t o = false := by rw [mem_owners ho] at h; simpa using h
 unfold sureN perhapsN; rw [List.take_add_one, ht, List.filter_append, List.filter_append]; simp [h2]
theorem sure_bd : (0 ≤ sureN b day (l.take i) o ∧ sureN b day (l.take i) o ≤ l.length) ∧ (0 ≤ perhapsN b day (l.take i) o ∧ perhapsN b day (l.take i) o ≤ l.length) := by
 unfold sureN perhapsN
 have h1 := List.length_filter_le (fun t => fitsO b day t o && decide ((ownersOf b day t).length = 1)) (l.take i)
 have h2 := List.length_filter_le (fun t => fitsO b day t o && decide ((ownersOf b day t).length ≠ 1)) (l.take i)
 have h3 : (l.take i).length ≤ l.length := by rw [List.length_take]; omega
 omega
theorem not_take9 {α : Type} {l : List α} {i : Nat} {x o : α} (h : ¬ o ∈ l.take i) (hx : l[i]? = some x) (hn : ¬ o = x) : ¬ o ∈ l.take (i + 1) := by
 rw [List.take_add_one, hx]
 intro g
 rcases List.mem_append.1 g with g | g
 ·exact h g
 simp at g; exact hn g
end
end Go.Vk.Mark

namespace Go.Vk
open Go
def u16E (T : TypeId) : Elt Nat where
 T := T
 sz := 1
 enc x := [.int .u16 (x : Int)]
 zero := [.int .u16 0]
 len _ := rfl
 pos := by decide
 one x v hv := by cases List.mem_singleton.1 hv; rfl
 zlen := rfl
end Go.Vk
namespace Go.Vk.Mark
open Go Go.Vk
open Go.Vk.Deed (rng rng_iff owners sumI sumI_cons sumI_snoc)
structure BnR (TB TC TU TI : TypeId) (w : World) (bb : Nat) (vc vu vn : Value) (cs : List Clm) (ms : List Nat) (cn : List Int) : Prop where
 blk : Blk w bb [vc, vu, vn] TB
 rc : Rd (clE TC) w vc cs
 ru : Rd (u16E TU) w vu ms
 rn : Rd (Go.Vk.intE TI) w vn cn
theorem BnR.le {TB TC TU TI : TypeId} {w w' : World} {bb : Nat} {vc vu vn : Value} {cs : List Clm} {ms : List Nat} {cn : List Int} (h : BnR TB TC TU TI w bb vc vu vn cs ms cn) (hk : Le w w') : BnR TB TC TU TI w' bb vc vu vn cs ms cn :=
 ⟨h.blk.keep hk id, h.rc.le hk, h.ru.le hk, h.rn.le hk⟩
def needAt (cs : List Clm) (s k : Nat) : Int := if inSet s k = true then (cs[k]?.map (·.number)).getD 0 else 0
def needP (cs : List Clm) (s i : Nat) : Int := sumI ((List.range i).map (needAt cs s))
section
variable {cs : List Clm} {s i : Nat} {c : Clm}
theorem need_zero : needP cs s 0 = 0 := rfl
theorem need_step : needP cs s (i + 1) = needP cs s i + needAt cs s i := by
 unfold needP; rw [List.range_succ, List.map_append, List.map_cons, List.map_nil]; exact sumI_snoc
theorem need_yes (hc : cs[i]? = some c) (h : s.testBit i = true) : needP cs s i + c.number = needP cs s (i + 1) := by
 rw [need_step, needAt, inSet, if_pos h, hc]; rfl
theorem need_no (h : s.testBit i = false) : needP cs s i = needP cs s (i + 1) := by
 rw [need_step, needAt, inSet, if_neg (by simp [h])]; omega
theorem need_bd (hb : ∀ c ∈ cs, 0 ≤ c.number ∧ c.number ≤ 60) : 0 ≤ needP cs s i ∧ needP cs s i ≤ 60 * i := by
 induction i with
 | zero => rw [need_zero]; omega
 | succ i ih =>
  rw [need_step]
  have : 0 ≤ needAt cs s i ∧ needAt cs s i ≤ 60 := by
   unfold needAt
   split
   ·cases h : cs[i]? with
    | none => simp
    | some c => have := hb c (List.mem_of_getElem? h); simpa using this
   omega
  omega
def lsAt (cs : List Clm) (s k : Nat) : List Int := if inSet s k = true then (match cs[k]? with | some c => [c.owner] | none => []) else []
def lsP (cs : List Clm) (s i : Nat) : List Int := (List.range i).flatMap (lsAt cs s)
theorem ls_zero : lsP cs s 0 = [] := rfl
theorem ls_yes (hc : cs[i]? = some c) (h : s.testBit i = true) : lsP cs s i ++ [c.owner] = lsP cs s (i + 1) := by
 unfold lsP; rw [List.range_succ, List.flatMap_append]; simp [lsAt, inSet, h, hc]
theorem ls_no (h : s.testBit i = false) : lsP cs s i = lsP cs s (i + 1) := by
 unfold lsP; rw [List.range_succ, List.flatMap_append]; simp [lsAt, inSet, h]
theorem ls_len : (lsP cs s i).length ≤ i := by
 induction i with
 | zero => simp [ls_zero]
 | succ i ih =>
  unfold lsP; rw [List.range_succ, List.flatMap_append, List.length_append]
  have : (lsAt cs s i).length ≤ 1 := by
   unfold lsAt
   split
   ·cases h : cs[i]? <;> simp
   simp
  show (lsP cs s i).length + _ ≤ _
  simp only [List.flatMap_cons, List.flatMap_nil, List.append_nil]; omega
end
end Go.Vk.Mark

namespace Go.Vk.Mark
open Go Go.Vk
theorem lessBits_lt {a b n : Nat} (h : a < 2 ^ n) : lessBits a b < 2 ^ n := by
 unfold lessBits; exact Nat.xor_lt_two_pow h (Nat.lt_of_le_of_lt Nat.and_le_left h)
def zet (cn : List Int) : Nat → Nat → Int
 | 0, s => cn.getD s 0
 | k + 1, s => zet cn k s + if s.testBit k = true then zet cn k (lessBits s (2 ^ k)) else 0
def zlist (cn : List Int) (N k i : Nat) : List Int := (List.range N).map fun s => if s < i then zet cn (k + 1) s else zet cn k s
section
variable {cn : List Int} {N k i s : Nat}
theorem zl_len : (zlist cn N k i).length = N := by simp [zlist]
theorem zl_get (h : s < N) : (zlist cn N k i)[s]? = some (if s < i then zet cn (k + 1) s else zet cn k s) := by simp [zlist, h]
theorem zl_start (h : cn.length = N) : zlist cn N 0 0 = cn := by
 refine List.ext_getElem? fun s => ?_
 by_cases hs : s < N
 ·rw [zl_get hs, if_neg (by omega), zet, List.getD_eq_getElem?_getD, List.getElem?_eq_getElem (by omega)]; rfl
 rw [List.getElem?_eq_none (by rw [zl_len]; omega), List.getElem?_eq_none (by omega)]
theorem zl_next : zlist cn N k N = zlist cn N (k + 1) 0 := by
 unfold zlist
 refine List.map_congr_left fun s hs => ?_
 rw [if_pos (List.mem_range.1 hs), if_neg (by omega)]
theorem zet_no (h : s.testBit k = false) : zet cn (k + 1) s = zet cn k s := by
 rw [zet, if_neg (by simp [h])]; omega
theorem zet_yes (h : s.testBit k = true) : zet cn (k + 1) s = zet cn k s + zet cn k (lessBits s (2 ^ k)) := by
 rw [zet, if_pos h]
theorem zl_no (h : i.testBit k = false) : zlist cn N k i = zlist cn N k (i + 1) := by
 unfold zlist
 refine List.map_congr_left fun s hs => ?_
 by_cases e : s = i
 ·subst e; rw [if_neg (by omega), if_pos (by omega), zet_no h]
 by_cases g : s < i
 ·rw [if_pos g, if_pos (by omega)]
 rw [if_neg g, if_neg (by omega)]
theorem zl_set (hi : i < N) (h : i.testBit k = true) : (zlist cn N k i).set i (zet cn k i + zet cn k (lessBits i (2 ^ k))) = zlist cn N k (i + 1) := by
 refine List.ext_getElem? fun s => ?_
 rw [List.getElem?_set]
 by_cases hs : s < N
 ·rw [zl_get hs, zl_get hs, zl_len]
  by_cases e : i = s
  ·subst e; rw [if_pos rfl, if_pos hi, if_pos (by omega), zet_yes h]
  rw [if_neg e]
  by_cases g : s < i
  ·rw [if_pos g, if_pos (by omega)]
  rw [if_neg g, if_neg (by omega)]
 rw [List.getElem?_eq_none (by rw [zl_len]; omega), List.getElem?_eq_none (by rw [zl_len]; omega), if_neg (by omega)]
theorem zl_at (hs : s < N) (h : s.testBit k = false) : (zlist cn N k i)[s]? = some (zet cn k s) := by
 rw [zl_get hs]
 split
 ·rw [zet_no h]
 rfl
theorem less_bit : (lessBits s (2 ^ k)).testBit k = false := by
 rw [lessBits_bit]; simp [Nat.testBit_two_pow_self]
theorem zet_bd (hb : ∀ x ∈ cn, 0 ≤ x ∧ x ≤ 60) : 0 ≤ zet cn k s ∧ zet cn k s ≤ 60 * 2 ^ k := by
 induction k generalizing s with
 | zero =>
  rw [zet, List.getD_eq_getElem?_getD]
  cases h : cn[s]? with
  | none => simp
  | some x => have := hb x (List.mem_of_getElem? h); simpa using this
 | succ k ih =>
  have h1 := ih (s := s)
  have h2 := ih (s := lessBits s (2 ^ k))
  rw [zet, Int.pow_succ]
  split <;> omega
def zshort (cz : List Clm) (cn : List Int) (s : Nat) : Bool := decide (zet cn cz.length (2 ^ cz.length - 1) - zet cn cz.length (lessBits (2 ^ cz.length - 1) s) < needN cz s)
def shP (cz : List Clm) (cn : List Int) (i : Nat) : List Nat := (List.range i).filter (zshort cz cn)
theorem sh_zero {cz : List Clm} : shP cz cn 0 = [] := rfl
theorem sh_yes {cz : List Clm} (h : zshort cz cn i = true) : shP cz cn (i + 1) = shP cz cn i ++ [i] := by
 unfold shP; rw [List.range_succ, List.filter_append]; simp [h]
theorem sh_no {cz : List Clm} (h : zshort cz cn i = false) : shP cz cn (i + 1) = shP cz cn i := by
 unfold shP; rw [List.range_succ, List.filter_append]; simp [h]
def canB (cz : List Clm) (cn : List Int) : Bool := (shP cz cn (2 ^ cz.length)).isEmpty
theorem can_yes {cz : List Clm} (h : [] = shP cz cn (2 ^ cz.length)) : true = canB cz cn := by unfold canB; rw [← h]; rfl
theorem can_no {cz : List Clm} (hs : s < 2 ^ cz.length) (h : zshort cz cn s = true) : false = canB cz cn := by
 unfold canB
 have hm : s ∈ shP cz cn (2 ^ cz.length) := List.mem_filter.2 ⟨List.mem_range.2 hs, h⟩
 cases e : shP cz cn (2 ^ cz.length) with
 | nil => rw [e] at hm; cases hm
 | cons x l => rfl
end
end Go.Vk.Mark

namespace Go.Vk.Mark
open Go Go.Vk
def giveN (cn : List Int) (m : Nat) (by_ : Int) : List Int := cn.set m (cn.getD m 0 - by_)
def giveC (cz : List Clm) (j : Nat) (by_ : Int) : List Clm := match cz[j]? with
 | some c => cz.set j ⟨c.owner, c.number - by_⟩
 | none => cz
section
variable {cn : List Int} {cz : List Clm} {m j : Nat} {x q : Int} {c : Clm}
theorem giveN_at (h : cn[m]? = some x) : cn.set m (x - q) = giveN cn m q := by unfold giveN; rw [List.getD_eq_getElem?_getD, h]; rfl
theorem giveN_len : (giveN cn m q).length = cn.length := by unfold giveN; rw [List.length_set]
theorem giveC_len : (giveC cz j q).length = cz.length := by unfold giveC; split <;> simp
theorem giveN_new (h : cn[m]? = some x) : (giveN cn m q)[m]? = some (x - q) := by
 rw [← giveN_at h, List.getElem?_set_self (List.getElem?_eq_some_iff.1 h).1]
theorem giveN_back (h : cn[m]? = some x) : giveN (giveN cn m 1) m (-1) = cn := by
 rw [← giveN_at (giveN_new h), ← giveN_at h, List.set_set]
 refine List.ext_getElem? fun i => ?_
 rw [List.getElem?_set]
 split
 ·next e => subst e; rw [if_pos (List.getElem?_eq_some_iff.1 h).1, h]; congr 1; omega
 rfl
theorem giveN_bd (h : cn[m]? = some x) (h1 : 1 ≤ x) (hb : ∀ x ∈ cn, 0 ≤ x ∧ x ≤ 60) : ∀ y ∈ giveN cn m 1, 0 ≤ y ∧ y ≤ 60 := fun y hy => by
 rw [← giveN_at h] at hy
 rcases List.mem_or_eq_of_mem_set hy with g | g
 ·exact hb y g
 have := hb x (List.mem_of_getElem? h); omega
theorem giveC_at (h : cz[j]? = some c) : cz.set j ⟨c.owner, c.number - q⟩ = giveC cz j q := by unfold giveC; rw [h]
theorem giveC_new (h : cz[j]? = some c) : (giveC cz j q)[j]? = some ⟨c.owner, c.number - q⟩ := by
 rw [← giveC_at h, List.getElem?_set_self (List.getElem?_eq_some_iff.1 h).1]
theorem giveC_back (h : cz[j]? = some c) : giveC (giveC cz j 1) j (-1) = cz := by
 rw [← giveC_at (giveC_new h), ← giveC_at h, List.set_set]
 refine List.ext_getElem? fun i => ?_
 rw [List.getElem?_set]
 split
 ·next e =>
  subst e; rw [if_pos (List.getElem?_eq_some_iff.1 h).1, h]
  have : c.number - 1 - -1 = c.number := by omega
  simp only [this]
 rfl
theorem giveC_bd (h : cz[j]? = some c) (h1 : ¬ c.number = 0) (hb : ∀ c ∈ cz, 0 ≤ c.number ∧ c.number ≤ 60) : ∀ y ∈ giveC cz j 1, 0 ≤ y.number ∧ y.number ≤ 60 := fun y hy => by
 rw [← giveC_at h] at hy
 rcases List.mem_or_eq_of_mem_set hy with g | g
 ·exact hb y g
 subst g; have := hb c (List.mem_of_getElem? h); dsimp only; omega
end
end Go.Vk.Mark

namespace Go.Vk.Deed
open Go Go.Vk

section
variable {α : Type} {p : α → Bool} {f : α → Int} {l m : List α} {i : Nat} {a : α}
theorem sumF_bd {B : Int} (hB : 0 ≤ B) (h : ∀ x ∈ l, 0 ≤ f x ∧ f x ≤ B) : 0 ≤ sumF p f l ∧ sumF p f l ≤ B * l.length := by
 have h1 := sumI_bd (l := (l.filter p).map f) (B := B) fun z hz => by
  obtain ⟨y, hy, rfl⟩ := List.mem_map.1 hz
  exact h y (List.mem_filter.1 hy).1
 have h2 : (((l.filter p).map f).length : Int) ≤ l.length := by rw [List.length_map]; exact Int.ofNat_le.2 (List.length_filter_le ..)
 have h3 := Int.mul_le_mul_of_nonneg_left h2 hB
 unfold sumF
 omega
theorem sumF_bd_take (n : Nat) (hn : l.length ≤ 400) (h : ∀ x ∈ l, 0 ≤ f x ∧ f x ≤ 1000000000) : 0 ≤ sumF p f (l.take n) ∧ sumF p f (l.take n) ≤ 400000000000 := by
 have h1 := sumF_bd (p := p) (l := l.take n) (B := 1000000000) (by omega) fun x hx => h x (List.mem_of_mem_take hx)
 rw [List.length_take] at h1
 have : ((min n l.length : Nat) : Int) ≤ 400 := by omega
 omega
end

structure StB (s : St) : Prop where
 ll : s.leases.length ≤ 400
 lp : ∀ x ∈ s.leases, 0 ≤ x.parts ∧ x.parts ≤ 1000000000
 pl : s.pledges.length ≤ 400
 pp : ∀ x ∈ s.pledges, 0 ≤ x.parts ∧ x.parts ≤ 1000000000
 po : ∀ x ∈ s.pledges, (1 ≤ x.frm ∧ x.frm ≤ 40) ∧ (1 ≤ x.to ∧ x.to ≤ 40)
 pn : (s.pledges.map (·.deed)).Nodup
 sb : ∀ o i, 0 ≤ s.src o i ∧ s.src o i ≤ 1000000000
 hb : ∀ o, 0 ≤ s.holds o ∧ s.holds o ≤ 1000000000
section
variable {s : St} {o day : Int}
theorem StB.out (h : StB s) (n : Nat) : 0 ≤ sumF (fun x : Ls => decide (x.frm = o ∧ x.day ≤ day ∧ day ≤ x.stop)) (·.parts) (s.leases.take n) ∧ sumF (fun x : Ls => decide (x.frm = o ∧ x.day ≤ day ∧ day ≤ x.stop)) (·.parts) (s.leases.take n) ≤ 400000000000 :=
 sumF_bd_take n h.ll h.lp
theorem StB.inn (h : StB s) (n : Nat) : 0 ≤ sumF (fun x : Ls => decide (x.to = o ∧ x.day ≤ day ∧ day ≤ x.stop)) (·.parts) (s.leases.take n) ∧ sumF (fun x : Ls => decide (x.to = o ∧ x.day ≤ day ∧ day ≤ x.stop)) (·.parts) (s.leases.take n) ≤ 400000000000 :=
 sumF_bd_take n h.ll h.lp
theorem StB.outS (h : StB s) : 0 ≤ Deed.outS s o day ∧ Deed.outS s o day ≤ 400000000000 := by have := h.out (o := o) (day := day) s.leases.length; rwa [List.take_length] at this
theorem StB.inS (h : StB s) : 0 ≤ Deed.inS s o day ∧ Deed.inS s o day ≤ 400000000000 := by have := h.inn (o := o) (day := day) s.leases.length; rwa [List.take_length] at this
theorem StB.pledged (h : StB s) : 0 ≤ Deed.pledged s o ∧ Deed.pledged s o ≤ 400000000000 := by
 have := sumF_bd_take (p := fun x : Pl => decide (x.frm = o)) (f := fun x : Pl => x.parts) (l := s.pledges) s.pledges.length h.pl h.pp
 rw [List.take_length] at this
 exact this
def plM (s : St) : List (Int × Pl) := s.pledges.map fun p => (p.deed, p)
theorem plOf_mem {p : Pl} {k : Int} (h : plOf s k = some p) : p ∈ s.pledges ∧ p.deed = k := by
 have h1 := List.find?_some h
 exact ⟨List.mem_of_find?_eq_some h, by simpa using h1⟩
theorem ids_asc : ids.Pairwise (· < ·) := by
 rw [ids, List.pairwise_map]
 exact List.pairwise_lt_range.imp fun h => by omega
theorem mem_ids {i : Int} : i ∈ ids ↔ 1 ≤ i ∧ i ≤ 400 := by
 rw [ids, List.mem_map]
 constructor
 ·rintro ⟨n, hn, rfl⟩
  have := List.mem_range.1 hn
  omega
 intro h
 exact ⟨(i - 1).toNat, List.mem_range.2 (by omega), by omega⟩
theorem idsS_asc : (idsS s o).Pairwise (· < ·) := List.Pairwise.filter _ ids_asc
theorem mem_idsS {i : Int} : i ∈ idsS s o ↔ (1 ≤ i ∧ i ≤ 400) ∧ 0 < s.src o i := by rw [idsS, List.mem_filter, mem_ids, decide_eq_true_iff]
end
section
variable {P : Program} {w : World} {E : Operand → Value} {T T' ty : TypeId} {x y : Operand}
end

section
variable {s : St} {day : Int} {k : Nat}
theorem mem_owners {o : Int} : o ∈ owners ↔ 1 ≤ o ∧ o ≤ 40 := by
 rw [owners, List.mem_map]
 constructor
 ·rintro ⟨n, hn, rfl⟩
  have := List.mem_range.1 hn
  omega
 intro h
 exact ⟨(o - 1).toNat, List.mem_range.2 (by omega), by omega⟩
end
structure MvI (s s' : St) (a c : Int) (L : List Int) (k k' : Int) : Prop where
 eq : moveL a c (idsS s a) k s = moveL a c L k' s'
 k0 : 0 ≤ k' ∧ k' ≤ k
 src : ∀ o i, s.src o i - (k - k') ≤ s'.src o i ∧ s'.src o i ≤ s.src o i + (k - k')
 holds : ∀ o, s.holds o - (k - k') ≤ s'.holds o ∧ s'.holds o ≤ s.holds o + (k - k')
 un : ∀ z ∈ L, s'.src a z = s.src a z
 nd : L.Nodup
 sub : ∀ z ∈ L, 1 ≤ z ∧ z ≤ 400
section
variable {s s' : St} {a c k k' id : Int} {L : List Int}
theorem MvI.start (hk : 0 ≤ k) : MvI s s a c (idsS s a) k k :=
 ⟨rfl, ⟨hk, Int.le_refl _⟩, fun o i => by omega, fun o => by omega, fun _ _ => rfl, idsS_asc.imp fun h => by omega, fun z hz => (mem_idsS.1 hz).1⟩
theorem addS_src {o i n : Int} (o' i' : Int) : (addS s o i n).src o' i' = s.src o' i' + if o' = o ∧ i' = i then n else 0 := by
 show (if o' = o ∧ i' = i then s.src o' i' + n else s.src o' i') = _
 split <;> omega
theorem addS_holds {o i n : Int} (o' : Int) : (addS s o i n).holds o' = s.holds o' + if o' = o then n else 0 := by
 show (if o' = o then s.holds o' + n else s.holds o') = _
 split <;> omega
theorem MvI.amount (h : MvI s s' a c (id :: L) k k') (hB : StB s) : 0 ≤ min k' (s'.src a id) ∧ min k' (s'.src a id) ≤ k' := by
 have h1 := h.un id (List.mem_cons_self ..)
 have h2 := (hB.sb a id).1
 have h3 := h.k0
 omega
theorem MvI.step (h : MvI s s' a c (id :: L) k k') (hB : StB s) : MvI s (addS (addS s' a id (-min k' (s'.src a id))) c id (min k' (s'.src a id))) a c L k (k' - min k' (s'.src a id)) := by
 have hn := h.amount hB
 have hk := h.k0
 have hnd := List.nodup_cons.1 h.nd
 generalize hq : min k' (s'.src a id) = q at *
 refine ⟨?_, by omega, fun o i => ?_, fun o => ?_, fun z hz => ?_, hnd.2, fun z hz => h.sub z (List.mem_cons_of_mem _ hz)⟩
 ·rw [h.eq, moveL, hq]
 ·have := h.src o i
  rw [addS_src, addS_src]
  split <;> split <;> omega
 ·have := h.holds o
  rw [addS_holds, addS_holds]
  split <;> split <;> omega
 have hne : z ≠ id := fun e => hnd.1 (e ▸ hz)
 have := h.un z (List.mem_cons_of_mem _ hz)
 rw [addS_src, addS_src, if_neg (fun e => hne e.2), if_neg (fun e => hne e.2)]
 omega
theorem MvI.done (h : MvI s s' a c [] k k') : s' = moveS s a c k := h.eq.symm
end
def sset (sf : Int → Int → Option Int) (o id x : Int) : Int → Int → Option Int := fun o' => if o' = o then mset (sf o) id x else sf o'
section
variable {n : Nm} {s : St} {hs : Int → Option Int} {pf : Int → Option Pl} {sf : Int → Int → Option Int} {o id x : Int} {m : Nat}
def Nm.more (n : Nm) (o : Int) (m : Nat) : Nm := { n with ms := n.ms ++ [(o, m)] }
theorem inn_none (h : n.inn o = none) : ∀ q ∈ n.ms, q.1 ≠ o := by
 intro q hq e
 unfold Nm.inn at h
 rw [Option.map_eq_none_iff, List.find?_eq_none] at h
 have := h q hq
 simp [e] at this
theorem more_inn (h : n.inn o = none) : (n.more o m).inn = mset n.inn o m := by
 funext q
 unfold mset Nm.inn Nm.more
 simp only [List.find?_append]
 by_cases e : q = o
 ·subst e
  have : n.ms.find? (fun p => decide (p.1 = q)) = none := List.find?_eq_none.2 fun p hp => by simpa using inn_none h p hp
  rw [this]; simp
 have hn : ¬ o = q := fun h => e h.symm
 cases hf : n.ms.find? (fun p => decide (p.1 = q)) <;> simp [e, hn]
theorem RollOk.more (h : RollOk n s hs pf sf) (hin : n.inn o = Option.none) : RollOk (n.more o m) s hs pf sf :=
 ⟨h.h, h.own, h.p, h.s, h.ids, fun q hq => h.none q (by
   rw [more_inn hin] at hq
   unfold mset at hq
   split at hq
   ·cases hq
   exact hq), by
  show ((n.ms ++ [(o, m)]).map (·.1)).Nodup
  rw [List.map_append]
  refine List.nodup_append.2 ⟨h.nd, by simp, fun a ha b hb => ?_⟩
  obtain ⟨q, hq, rfl⟩ := List.mem_map.1 ha
  simp at hb; subst hb
  exact inn_none hin q hq⟩
theorem RollOk.add (h : RollOk n s hs pf sf) (ho : 1 ≤ o ∧ o ≤ 40) (hi : 1 ≤ id ∧ id ≤ 400) (hin : n.inn o = some m) : RollOk n (addS s o id x) (mset hs o (s.holds o + x)) pf (sset sf o id (s.src o id + x)) := by
 refine ⟨fun q => ?_, fun q a hq => ?_, h.p, fun q i => ?_, fun q i a hq => ?_, fun q hq i => ?_, h.nd⟩
 ·unfold mset addS
  by_cases e : q = o
  ·subst e; simp
  simp [e, h.h]
 ·unfold mset at hq
  split at hq
  ·next e => rw [e]; exact ho
  exact h.own q a hq
 ·unfold sset mset addS
  by_cases e : q = o
  ·subst e
   by_cases e2 : i = id
   ·subst e2; simp
   simp [e2, h.s]
  simp [e, h.s]
 ·unfold sset mset at hq
  split at hq
  ·next e =>
   dsimp only at hq
   split at hq
   ·next e2 => rw [e2]; exact hi
   exact h.ids o i a hq
  exact h.ids q i a hq
 have : q ≠ o := fun e => by rw [e, hin] at hq; cases hq
 unfold sset
 rw [if_neg this]
 exact h.none q hq i
end
section
variable {t : Tys} {b : Nat} {n : Nm} {s : St} {X : Nat → Prop} {w0 w : World} {hs : Int → Option Int} {pf : Int → Option Pl} {sf : Int → Int → Option Int} {ls : List Ls} {is : List Int} {o : Int} {m : Nat}
end
section
variable {P : Program} {b : Frame} {cs : List Frame} {fin : Machine → Prop} {nn : Nat} {all : Array Oper} {rest : List Oper} {k : List Item} {ρ : Env} {ds : List Deferred} {w : World}
 {d' : Option Nat} {ty : TypeId} {pos : String} {af : Array Edge} {g : Option (Nat × Bool)} {T kt et : TypeId} {x y z : Operand} {dk : TypeDesc} {X : Nat → Prop} {w0 : World} {L : List Rsc} {n : Nm} {sf : Int → Int → Option Int} {o i0 v0 : Int} {m : Nat}
end
end Go.Vk.Deed

namespace Go.Vk.Deed
open Go Go.Vk

section
variable {t : Tys} {b : Nat} {n : Nm} {s : St} {w : World} {hs : Int → Option Int} {pf : Int → Option Pl} {sf : Int → Int → Option Int} {x : D} {v : Value}
theorem RollOk.lease (h : RollOk n s hs pf sf) : RollOk { n with lv := v } (leaseS s x) hs pf sf := ⟨h.h, h.own, h.p, h.s, h.ids, h.none, h.nd⟩
theorem RollOk.idle (h : RollOk n s hs pf sf) {id : Int} : RollOk { n with iv := v } (idleS s id) hs pf sf := ⟨h.h, h.own, h.p, h.s, h.ids, h.none, h.nd⟩
theorem plOf_redeem (id k : Int) : plOf (redeemS s id) k = mdel (plOf s) id k := by
 unfold plOf redeemS mdel
 by_cases e : k = id
 ·subst e
  rw [if_pos rfl]
  refine List.find?_eq_none.2 fun p hp => ?_
  have := (List.mem_filter.1 hp).2
  simpa using this
 rw [if_neg e]
 show List.find? _ (s.pledges.filter _) = _
 rw [List.find?_filter]
 congr 1
 funext p
 by_cases g : p.deed = k
 ·have : p.deed ≠ id := fun h => e (g.symm.trans h)
  simp [g, e]
 simp [g]
theorem RollOk.redeem (h : RollOk n s hs pf sf) (id : Int) : RollOk n (redeemS s id) hs (mdel pf id) sf :=
 ⟨h.h, h.own, fun k => by
  rw [plOf_redeem]
  unfold mdel
  split
  ·rfl
  exact h.p k, h.s, h.ids, h.none, h.nd⟩
theorem StB.redeem (h : StB s) (id : Int) : StB (redeemS s id) := by
 have hsub : ∀ p ∈ (redeemS s id).pledges, p ∈ s.pledges := fun p hp => (List.mem_filter.1 hp).1
 exact ⟨h.ll, h.lp, Nat.le_trans (List.length_filter_le _ _) h.pl, fun p hp => h.pp p (hsub p hp), fun p hp => h.po p (hsub p hp), h.pn.sublist (List.filter_sublist.map _), h.sb, h.hb⟩
end
section
variable {s : St} {x : D} {p : Pl}
theorem do_enter (k : x.kind = 1) : do1 s x = some (addS s x.to x.id x.parts) := by simp [do1, k]
theorem do_grant (k : x.kind = 2) (h : x.parts ≤ free s x.frm x.day) : do1 s x = some (moveS s x.frm x.to x.parts) := by simp [do1, k, h]
theorem do_grant0 (k : x.kind = 2) (h : ¬ x.parts ≤ free s x.frm x.day) : do1 s x = none := by simp [do1, k, h]
theorem do_heirs (k : x.kind = 3) (h : 0 < free s x.frm x.day) : do1 s x = some (movesS x.frm x.heirs (wholeS (free s x.frm x.day) x.shares) s) := by simp [do1, k, h]
theorem do_heirs0 (k : x.kind = 3) (h : ¬ 0 < free s x.frm x.day) : do1 s x = none := by simp [do1, k, h]
theorem do_lease (k : x.kind = 4) (h : x.parts ≤ free s x.frm x.day) : do1 s x = some (leaseS s x) := by simp [do1, k, h]
theorem do_lease0 (k : x.kind = 4) (h : ¬ x.parts ≤ free s x.frm x.day) : do1 s x = none := by simp [do1, k, h]
theorem do_pledge (k : x.kind = 5) (h : x.parts ≤ free s x.frm x.day) : do1 s x = some (pledgeS s x) := by simp [do1, k, h]
theorem do_pledge0 (k : x.kind = 5) (h : ¬ x.parts ≤ free s x.frm x.day) : do1 s x = none := by simp [do1, k, h]
theorem do_redeem (k : x.kind = 6) (h : plOf s x.of = some p) : do1 s x = some (redeemS s x.of) := by simp [do1, k, h]
theorem do_redeem0 (k : x.kind = 6) (h : plOf s x.of = none) : do1 s x = none := by simp [do1, k, h]
theorem do_seize (k : x.kind = 7) (h : plOf s x.of = some p) : do1 s x = some (moveS (redeemS s x.of) p.frm p.to p.parts) := by simp [do1, k, h]
theorem do_seize0 (k : x.kind = 7) (h : plOf s x.of = none) : do1 s x = none := by simp [do1, k, h]
theorem formed_two (h : formed x = true) (k : x.kind = 2 ∨ x.kind = 4 ∨ x.kind = 5) : (1 ≤ x.frm ∧ x.frm ≤ 40) ∧ (1 ≤ x.to ∧ x.to ≤ 40) ∧ x.frm ≠ x.to ∧ 1 ≤ x.parts ∧ x.parts ≤ 1000000000 := by
 simp only [formed, Bool.and_eq_true] at h
 have hk := h.2
 rcases k with k | k | k <;> simp [kindB, k, own, rng] at hk <;> omega
theorem formed_ent (h : formed x = true) (k : x.kind = 1) : (1 ≤ x.to ∧ x.to ≤ 40) ∧ 1 ≤ x.parts ∧ x.parts ≤ 1000000000 := by
 simp only [formed, Bool.and_eq_true] at h
 have hk := h.2
 simp [kindB, k, own, rng] at hk; omega
theorem formed_id (h : formed x = true) : (1 ≤ x.id ∧ x.id ≤ 400) ∧ (0 ≤ x.day ∧ x.day ≤ 100000) := by
 simp only [formed, Bool.and_eq_true, rng_iff] at h; omega
theorem formed_heirs (h : formed x = true) (k : x.kind = 3) : heirsB x = true := by
 simp only [formed, Bool.and_eq_true] at h
 have hk := h.2
 simp [kindB, k] at hk; exact hk.1
end
theorem try_some {s s' : St} {x : D} (h : do1 s x = some s') : try1 s x = s' := by rw [try1, h]
theorem try_none {s : St} {x : D} (h : do1 s x = none) : try1 s x = idleS s x.id := by rw [try1, h]
end Go.Vk.Deed
namespace Go.Vk
open Go
theorem x_buildA {P : Program} {E : Operand → Value} {T ty e : TypeId} {w : World} {parts : List (Nat × Operand)} {z : Value} {zc out : List Value} {m s : Nat} (hz : ∀ w, (zeroValue T).run P w = .ok z w) (hzc : z.cells = zc.toArray)
  (hu : ∀ w, (underlying T).run P w = .ok (.array m e) w) (hs : ∀ w, (sizeOf e).run P w = .ok s w)
  (hf : Instr.fill (fun i => some (i * s, s)) zc.toArray (parts.map fun p => (p.1, E p.2)) = some out.toArray) : X P E (.build T parts.toArray) ty w (.agg out.toArray) w := by
 refine ⟨nofun, fun _ _ _ _ => ?_⟩
 simp only [execOp, Instr.build, Sem.run_bind, hz, Result.andThen_ok, hzc, hu, hs, List.map_toArray]
 rw [hf]
 rfl
theorem Dl.mono {P : Program} {f : FuncId} {args : Array Value} {u : FrameMode} {w : World} {R R' : FrameMode → World → Prop} (h : Dl P f args u w R) (hr : ∀ u w', R u w' → R' u w') : Dl P f args u w R' := by
 intro c0 cs hc
 obtain ⟨e, u', w', fr, ⟨v, he, hR⟩, hs⟩ := h c0 cs hc
 exact ⟨e, u', w', fr, ⟨v, he, hr _ _ hR⟩, hs⟩
end Go.Vk

namespace Go.Vk.Deed
open Go Go.Vk

section
variable {c : Int → Int} {l L : List Int} {i j : Nat} {x y : Int}
def Fst (c : Int → Int) (x y : Int) : Prop := c y < c x ∨ (c x = c y ∧ x < y)
theorem Fst.trans {z : Int} (h : Fst c x y) (g : Fst c y z) : Fst c x z := by unfold Fst at *; omega
def idxs (n : Nat) : List Int := (List.range n).map fun (i : Nat) => (i : Int)
theorem idxs_len {n : Nat} : (idxs n).length = n := by simp [idxs]
theorem idxs_get {n : Nat} (h : i < n) : (idxs n)[i]? = some (i : Int) := by simp [idxs, h]
theorem idxs_snoc {n : Nat} : idxs (n + 1) = idxs n ++ [(n : Int)] := by simp [idxs, List.range_succ]
theorem mem_idxs {n : Nat} : x ∈ idxs n ↔ 0 ≤ x ∧ x < n := by
 rw [idxs, List.mem_map]
 constructor
 ·rintro ⟨k, hk, rfl⟩
  have := List.mem_range.1 hk
  omega
 intro h
 exact ⟨x.toNat, List.mem_range.2 (by omega), by omega⟩
theorem idxs_split {n : Nat} (h : i ≤ n) : idxs n = idxs i ++ (idxs n).drop i := by
 have e : (idxs n).take i = idxs i := by
  rw [idxs, idxs, ← List.map_take, List.take_range, Nat.min_eq_left h]
 rw [← e, List.take_append_drop]
structure InsO (c : Int → Int) (n i : Nat) (L : List Int) : Prop where
 ex : ∃ A : List Int, L = A ++ (idxs n).drop i ∧ A.Perm (idxs i) ∧ A.Pairwise (Fst c)
 le : i ≤ n
structure InsI (c : Int → Int) (n i j : Nat) (L : List Int) : Prop where
 ex : ∃ A B : List Int, L = A ++ (i : Int) :: (B ++ (idxs n).drop (i + 1)) ∧ A.length = j ∧ (A ++ B).Perm (idxs i) ∧ (A ++ B).Pairwise (Fst c) ∧ ∀ y ∈ B, Fst c i y
 lt : i < n
variable {n : Nat}
theorem InsO.start (h : 1 ≤ n) : InsO c n 1 (idxs n) := ⟨⟨idxs 1, idxs_split h, .refl _, by simp [idxs]⟩, h⟩
theorem InsO.len (h : InsO c n i L) : L.length = n := by
 obtain ⟨A, rfl, hp, _⟩ := h.ex
 have := hp.length_eq
 have := h.le
 rw [List.length_append, List.length_drop, idxs_len]
 rw [idxs_len] at *
 omega
theorem InsI.len (h : InsI c n i j L) : L.length = n ∧ j ≤ i := by
 obtain ⟨A, B, rfl, ha, hp, _⟩ := h.ex
 have h1 := hp.length_eq
 have := h.lt
 rw [List.length_append, idxs_len] at h1
 rw [List.length_append, List.length_cons, List.length_append, List.length_drop, idxs_len]
 omega
theorem InsO.take (h : InsO c n i L) (hi : i < n) : InsI c n i i L := by
 obtain ⟨A, rfl, hp, hs⟩ := h.ex
 refine ⟨⟨A, [], ?_, by have := hp.length_eq; rwa [idxs_len] at this, by rw [List.append_nil]; exact hp, by rw [List.append_nil]; exact hs, by simp⟩, hi⟩
 have hd : (idxs n).drop i = (i : Int) :: (idxs n).drop (i + 1) := by
  have h1 := idxs_get hi
  obtain ⟨h2, h3⟩ := List.getElem?_eq_some_iff.1 h1
  rw [List.drop_eq_getElem_cons h2, h3]
 rw [hd]; rfl
theorem InsI.at (h : InsI c n i j L) : L[j]? = some (i : Int) := by
 obtain ⟨A, B, rfl, ha, _⟩ := h.ex
 rw [List.getElem?_append_right (by omega), ha, Nat.sub_self]; rfl
theorem InsI.stop (h : InsI c n i j L) (hc : 0 < j → ∀ y, L[j - 1]? = some y → ¬ c y < c i) : InsO c n (i + 1) L := by
 obtain ⟨A, B, rfl, ha, hp, hs, hb⟩ := h.ex
 have hA : ∀ y ∈ A, Fst c y i := by
  intro y hy
  have hlt : ∀ y ∈ A, y < i := fun y hy => (mem_idxs.1 (hp.mem_iff.1 (List.mem_append_left _ hy))).2
  have hne : A ≠ [] := fun e => by rw [e] at hy; cases hy
  obtain ⟨A', z, rfl⟩ : ∃ A' z, A = A' ++ [z] := ⟨A.dropLast, A.getLast hne, (List.dropLast_concat_getLast hne).symm⟩
  rw [List.length_append, List.length_singleton] at ha
  have hz : Fst c z i := by
   have h1 := hc (by omega) z (by
    rw [List.getElem?_append_left (by simp; omega), List.getElem?_append_right (by omega)]
    have : j - 1 - A'.length = 0 := by omega
    rw [this]; rfl)
   have h2 := hlt z (by simp)
   unfold Fst; omega
  rcases List.mem_append.1 hy with hy | hy
  ·have hs1 := (List.pairwise_append.1 hs).1
   exact ((List.pairwise_append.1 hs1).2.2 y hy z (by simp)).trans hz
  simp at hy; subst hy; exact hz
 refine ⟨⟨A ++ (i : Int) :: B, by simp, ?_, ?_⟩, h.lt⟩
 ·rw [idxs_snoc]
  exact List.perm_middle.trans ((List.Perm.cons _ hp).trans (List.perm_append_singleton _ _).symm)
 rw [List.pairwise_append] at hs ⊢
 refine ⟨hs.1, List.pairwise_cons.2 ⟨hb, hs.2.1⟩, fun a ha' b hb' => ?_⟩
 rcases List.mem_cons.1 hb' with rfl | hb'
 ·exact hA a ha'
 exact hs.2.2 a ha' b hb'
theorem InsO.done (h : InsO c n n L) : L.Perm (idxs n) ∧ L.Pairwise (Fst c) := by
 obtain ⟨A, rfl, hp, hs⟩ := h.ex
 have e : (idxs n).drop n = [] := List.drop_eq_nil_of_le (by rw [idxs_len]; exact Nat.le_refl _)
 rw [e, List.append_nil]
 exact ⟨hp, hs⟩
end
end Go.Vk.Deed
namespace Go.Vk.Deed
open Go Go.Vk

def prtE (l : List Int) (fine : Bool) : Int := if 40 < l.length then 2 else if l.all (fun p => rng p 0 1000) = false then 1 else if fine = false then 1 else if sumI l = 0 then 11 else 0
def baseS (total : Int) (l : List Int) : List Int := l.map fun p => total * p / sumI l
def cutS (total : Int) (l : List Int) : List Int := l.map fun p => total * p % sumI l
section
variable {total : Int} {l : List Int} {i : Nat} {a : Int} {fine : Bool}
end
end Go.Vk.Deed
namespace Go.Vk.Deed
open Go Go.Vk

def bumps (o : List Int) (M : List Int) : List Int := M.foldl (fun o x => o.set x.toNat (o.getD x.toNat 0 + 1)) o
section
variable {o M : List Int} {x : Int} {i : Nat}
end
section
variable {c : Int → Int} {L : List Int} {n p : Nat} {x : Int}
end
section
variable {t a s : Int} {l L o M : List Int} {i k : Nat}
end
theorem mem_le_sum : ∀ {l : List Int}, (∀ x ∈ l, 0 ≤ x) → ∀ x ∈ l, x ≤ sumI l := by
 intro l
 induction l with
 | nil => intro _ x h; cases h
 | cons y l ih =>
  intro h x hx
  have h0 : 0 ≤ sumI l := by
   have : ∀ {l : List Int}, (∀ x ∈ l, 0 ≤ x) → 0 ≤ sumI l := by
    intro l
    induction l with
    | nil => intro _; simp [sumI]
    | cons z l ih => intro h; rw [sumI_cons]; have := h z (List.mem_cons_self ..); have := ih fun q hq => h q (List.mem_cons_of_mem _ hq); omega
   exact this fun q hq => h q (List.mem_cons_of_mem _ hq)
  have hy := h y (List.mem_cons_self ..)
  rw [sumI_cons]
  rcases List.mem_cons.1 hx with rfl | hx
  ·omega
  have := ih (fun q hq => h q (List.mem_cons_of_mem _ hq)) x hx; omega
theorem whole_len {t : Int} {l : List Int} : (wholeS t l).length = l.length := by simp [wholeS]
theorem whole_bd {t : Int} {l : List Int} (ht : 0 ≤ t ∧ t ≤ 1000000000) (hl : ∀ x ∈ l, 0 ≤ x) (hs : 0 < sumI l) {i : Nat} {y : Int} (hy : (wholeS t l)[i]? = some y) : 0 ≤ y ∧ y ≤ 2000000000 := by
 have hi := (List.getElem?_eq_some_iff.1 hy).1
 rw [whole_len] at hi
 have e : (wholeS t l)[i]? = some ((baseS t l).getD i 0 + if (cutsAbove (cutS t l) i : Int) < t - sumI (baseS t l) then 1 else 0) := by
  unfold wholeS
  simp only []
  rw [List.getElem?_map, List.getElem?_range hi, Option.map_some]
  rfl
 rw [e] at hy
 have hb : 0 ≤ (baseS t l).getD i 0 ∧ (baseS t l).getD i 0 ≤ 1000000000 := by
  have hg : (baseS t l)[i]? = some (t * l[i] / sumI l) := by simp [baseS, List.getElem?_eq_getElem hi]
  rw [List.getD_eq_getElem?_getD, hg, Option.getD_some]
  have h1 := hl l[i] (List.getElem_mem hi)
  have h2 := mem_le_sum hl l[i] (List.getElem_mem hi)
  refine ⟨Int.ediv_nonneg (Int.mul_nonneg ht.1 h1) (by omega), ?_⟩
  have h3 : t * l[i] ≤ t * sumI l := Int.mul_le_mul_of_nonneg_left h2 ht.1
  have h4 : t * l[i] / sumI l ≤ t * sumI l / sumI l := Int.ediv_le_ediv hs h3
  rw [Int.mul_ediv_cancel _ (by omega)] at h4
  omega
 have hy' := Option.some.inj hy
 rw [← hy']
 split <;> omega
theorem heirs_facts {x : D} (h : heirsB x = true) : (1 ≤ x.heirs.length ∧ x.heirs.length ≤ 10) ∧ x.shares.length = x.heirs.length ∧ (1 ≤ x.frm ∧ x.frm ≤ 40) ∧ (∀ y ∈ x.heirs, 1 ≤ y ∧ y ≤ 40) ∧ (∀ y ∈ x.shares, 1 ≤ y ∧ y ≤ 1000) := by
 unfold heirsB at h
 simp only [Bool.and_eq_true, decide_eq_true_eq, List.all_eq_true] at h
 obtain ⟨⟨⟨⟨⟨g1, g2⟩, g3⟩, g4⟩, g5⟩, _⟩ := h
 exact ⟨g1, g2, own_iff.1 g3, fun y hy => own_iff.1 (g4 y hy), fun y hy => rng_iff.1 (g5 y hy)⟩
theorem sum_pos {l : List Int} (h : ∀ y ∈ l, 1 ≤ y ∧ y ≤ 1000) (hl : 1 ≤ l.length) : 0 < sumI l := by
 obtain ⟨y, hy⟩ : ∃ y, l[0]? = some y := ⟨_, List.getElem?_eq_getElem (by omega)⟩
 have h1 := mem_le_sum (fun x hx => by have := h x hx; omega) y (List.mem_of_getElem? hy)
 have := h y (List.mem_of_getElem? hy)
 omega
end Go.Vk.Deed

namespace Go.Vk.Deed
open Go Go.Vk

theorem sum_bump {l : List Int} {f : Int → Int} {j n : Int} (hn : l.Nodup) (hj : j ∈ l) : sumI (l.map fun i => f i + if i = j then n else 0) = sumI (l.map f) + n := by
 induction l with
 | nil => cases hj
 | cons x l ih =>
  rw [List.nodup_cons] at hn
  rw [List.map_cons, List.map_cons, sumI_cons, sumI_cons]
  rcases List.mem_cons.1 hj with rfl | hj
  ·have e : l.map (fun i => f i + if i = j then n else 0) = l.map f := List.map_congr_left fun i hi => by
    have : i ≠ j := fun h => hn.1 (h ▸ hi)
    rw [if_neg this]; omega
   rw [e, if_pos rfl]; omega
  have hx : x ≠ j := fun h => hn.1 (h ▸ hj)
  rw [ih hn.2 hj, if_neg hx]; omega
theorem sum_same {l : List Int} {f g : Int → Int} (h : ∀ i ∈ l, f i = g i) : sumI (l.map f) = sumI (l.map g) := congrArg sumI (List.map_congr_left h)
theorem sum_zero {l : List Int} {f : Int → Int} (h : ∀ i ∈ l, f i = 0) : sumI (l.map f) = 0 := by
 induction l with
 | nil => rfl
 | cons x l ih => rw [List.map_cons, sumI_cons, h x (List.mem_cons_self ..), ih fun i hi => h i (List.mem_cons_of_mem _ hi)]; rfl
theorem le_sum {l : List Int} {f : Int → Int} (h : ∀ i ∈ l, 0 ≤ f i) {i : Int} (hi : i ∈ l) : f i ≤ sumI (l.map f) :=
 mem_le_sum (fun x hx => by obtain ⟨j, hj, rfl⟩ := List.mem_map.1 hx; exact h j hj) (f i) (List.mem_map.2 ⟨i, hi, rfl⟩)
theorem sum_nn {l : List Int} {f : Int → Int} (h : ∀ i ∈ l, 0 ≤ f i) : 0 ≤ sumI (l.map f) := by
 induction l with
 | nil => simp [sumI]
 | cons x l ih => rw [List.map_cons, sumI_cons]; have := h x (List.mem_cons_self ..); have := ih fun i hi => h i (List.mem_cons_of_mem _ hi); omega
theorem ids_nd : ids.Nodup := ids_asc.imp fun h => by omega
theorem owners_nd : owners.Nodup := by
 rw [owners]
 refine List.Pairwise.map _ ?_ List.pairwise_lt_range
 intro a b h; omega

structure Bal (s : St) (T : Int) : Prop where
 nn : ∀ o i, 0 ≤ s.src o i
 z : ∀ o i, ¬ ((1 ≤ o ∧ o ≤ 40) ∧ (1 ≤ i ∧ i ≤ 400)) → s.src o i = 0
 hs : ∀ o, s.holds o = sumI (ids.map (s.src o))
 tot : sumI (owners.map s.holds) = T
section
variable {s : St} {T o id n a c k : Int}
theorem Bal.nil : Bal St.nil 0 := ⟨fun _ _ => Int.le_refl _, fun _ _ _ => rfl, fun _ => (sum_zero fun _ _ => rfl).symm, sum_zero fun _ _ => rfl⟩
theorem Bal.add (h : Bal s T) (ho : 1 ≤ o ∧ o ≤ 40) (hi : 1 ≤ id ∧ id ≤ 400) (hn : 0 ≤ s.src o id + n) : Bal (addS s o id n) (T + n) := by
 refine ⟨fun o' i' => ?_, fun o' i' hz => ?_, fun o' => ?_, ?_⟩
 ·rw [addS_src]
  split
  ·next e => rw [e.1, e.2]; exact hn
  have := h.nn o' i'; omega
 ·rw [addS_src, h.z o' i' hz, if_neg (fun e => hz (by rw [e.1, e.2]; exact ⟨ho, hi⟩))]; rfl
 ·rw [addS_holds, h.hs]
  by_cases e : o' = o
  ·subst e
   rw [if_pos rfl, ← sum_bump ids_nd (mem_ids.2 hi)]
   exact sum_same fun i _ => by rw [addS_src]; simp
  rw [if_neg e, Int.add_zero]
  exact sum_same fun i _ => by rw [addS_src, if_neg (fun q => e q.1)]; omega
 rw [← h.tot, ← sum_bump owners_nd (mem_owners.2 ho)]
 exact sum_same fun i _ => addS_holds i
theorem Bal.moveL (ha : 1 ≤ a ∧ a ≤ 40) (hc : 1 ≤ c ∧ c ≤ 40) : ∀ (L : List Int) {k : Int} {s : St}, (∀ z ∈ L, 1 ≤ z ∧ z ≤ 400) → 0 ≤ k → Bal s T → Bal (Deed.moveL a c L k s) T := by
 intro L
 induction L with
 | nil => intro k s _ _ h; exact h
 | cons z L ih =>
  intro k s hL hk h
  rw [Deed.moveL]
  have hz := hL z (List.mem_cons_self ..)
  have h0 := h.nn a z
  refine ih (fun y hy => hL y (List.mem_cons_of_mem _ hy)) (by omega) ?_
  have h1 := h.add (n := -min k (s.src a z)) ha hz (by omega)
  have h2 := h1.add (n := min k (s.src a z)) hc hz (by have := h1.nn c z; omega)
  have e : T + -min k (s.src a z) + min k (s.src a z) = T := by omega
  rwa [e] at h2
theorem Bal.move (h : Bal s T) (ha : 1 ≤ a ∧ a ≤ 40) (hc : 1 ≤ c ∧ c ≤ 40) (hk : 0 ≤ k) : Bal (moveS s a c k) T := Bal.moveL ha hc _ (fun _ hz => (mem_idsS.1 hz).1) hk h
theorem Bal.moves (ha : 1 ≤ a ∧ a ≤ 40) : ∀ (hs ks : List Int) {s : St}, (∀ x ∈ hs, 1 ≤ x ∧ x ≤ 40) → (∀ k ∈ ks, 0 ≤ k) → Bal s T → Bal (movesS a hs ks s) T := by
 intro hs
 induction hs with
 | nil => intro ks s _ _ h; exact h
 | cons x hs ih => intro ks s h1 h2 h; cases ks with
  | nil => exact h
  | cons k ks => exact ih ks (fun y hy => h1 y (List.mem_cons_of_mem _ hy)) (fun y hy => h2 y (List.mem_cons_of_mem _ hy)) (h.move ha (h1 x (List.mem_cons_self ..)) (h2 k (List.mem_cons_self ..)))
theorem moveL_rest (a c : Int) : ∀ (L : List Int) (k : Int) (s : St), (Deed.moveL a c L k s).leases = s.leases ∧ (Deed.moveL a c L k s).pledges = s.pledges ∧ (Deed.moveL a c L k s).idle = s.idle := by
 intro L
 induction L with
 | nil => intro k s; exact ⟨rfl, rfl, rfl⟩
 | cons z L ih => intro k s; rw [Deed.moveL]; exact ih _ _
theorem moveS_rest : (moveS s a c k).leases = s.leases ∧ (moveS s a c k).pledges = s.pledges ∧ (moveS s a c k).idle = s.idle := moveL_rest a c _ _ _
theorem movesS_rest : ∀ (hs ks : List Int) (s : St), (movesS a hs ks s).leases = s.leases ∧ (movesS a hs ks s).pledges = s.pledges ∧ (movesS a hs ks s).idle = s.idle := by
 intro hs
 induction hs with
 | nil => intro ks s; exact ⟨rfl, rfl, rfl⟩
 | cons x hs ih => intro ks s; cases ks with
  | nil => exact ⟨rfl, rfl, rfl⟩
  | cons k ks =>
   have h1 := ih ks (moveS s a x k)
   have h2 := moveS_rest (s := s) (a := a) (c := x) (k := k)
   exact ⟨h1.1.trans h2.1, h1.2.1.trans h2.2.1, h1.2.2.trans h2.2.2⟩
theorem Bal.holds_nn (h : Bal s T) (o : Int) : 0 ≤ s.holds o := by rw [h.hs]; exact sum_nn fun i _ => h.nn o i
theorem Bal.holds_z (h : Bal s T) (ho : ¬ (1 ≤ o ∧ o ≤ 40)) : s.holds o = 0 := by rw [h.hs]; exact sum_zero fun i _ => h.z o i fun e => ho e.1
theorem Bal.holds_le (h : Bal s T) (o : Int) : s.holds o ≤ T := by
 by_cases ho : 1 ≤ o ∧ o ≤ 40
 ·rw [← h.tot]; exact le_sum (fun i _ => h.holds_nn i) (mem_owners.2 ho)
 rw [h.holds_z ho, ← h.tot]; exact sum_nn fun i _ => h.holds_nn i
theorem Bal.src_le (h : Bal s T) (o i : Int) : s.src o i ≤ s.holds o := by
 by_cases hi : 1 ≤ i ∧ i ≤ 400
 ·rw [h.hs]; exact le_sum (fun j _ => h.nn o j) (mem_ids.2 hi)
 rw [h.z o i fun e => hi e.2]; exact h.holds_nn o
end

def play (l : List D) : St := l.foldl try1 St.nil
theorem play_snoc {l : List D} {x : D} : play (l ++ [x]) = try1 (play l) x := by simp [play, List.foldl_append]
structure PlayL (l : List D) : Prop where
 f : ∀ x ∈ l, formed x = true
 k : ∀ x ∈ l, x.kind ≠ 8
 nd : (l.map (·.id)).Nodup
 e : enters l ≤ 1000000000
 len : l.length ≤ 400
structure StI (s : St) (l : List D) : Prop where
 bal : Bal s (enters l)
 ll : s.leases.length ≤ l.length
 lp : ∀ x ∈ s.leases, (1 ≤ x.parts ∧ x.parts ≤ 1000000000) ∧ (1 ≤ x.frm ∧ x.frm ≤ 40) ∧ (1 ≤ x.to ∧ x.to ≤ 40) ∧ ∃ y ∈ l, y.kind = 4 ∧ x = ⟨y.id, y.frm, y.to, y.parts, y.stop, y.day⟩
 pl : s.pledges.length ≤ l.length
 pp : ∀ x ∈ s.pledges, (1 ≤ x.parts ∧ x.parts ≤ 1000000000) ∧ (1 ≤ x.frm ∧ x.frm ≤ 40) ∧ (1 ≤ x.to ∧ x.to ≤ 40) ∧ ∃ y ∈ l, y.kind = 5 ∧ x = ⟨y.id, y.frm, y.to, y.parts⟩
 pn : (s.pledges.map (·.deed)).Nodup
 il : s.idle.length ≤ l.length
 is : ∀ i ∈ s.idle, i ∈ l.map (·.id)
section
variable {s : St} {l t : List D} {x y : D}
theorem enters_snoc : enters (l ++ [x]) = enters l + if x.kind = 1 then x.parts else 0 := by
 rw [enters, List.map_append]; exact sumI_snoc
theorem formed_kinds (h : formed x = true) : x.kind = 1 ∨ x.kind = 2 ∨ x.kind = 3 ∨ x.kind = 4 ∨ x.kind = 5 ∨ x.kind = 6 ∨ x.kind = 7 ∨ x.kind = 8 := by
 refine Classical.byContradiction fun hn => ?_
 simp only [not_or] at hn
 have := formed0 (x := x) hn.1 hn.2.1 hn.2.2.1 hn.2.2.2.1 hn.2.2.2.2.1 hn.2.2.2.2.2.1 hn.2.2.2.2.2.2.1 hn.2.2.2.2.2.2.2
 rw [h] at this; cases this
theorem StI.nil : StI St.nil [] := ⟨Bal.nil, Nat.le_refl _, by simp [St.nil], Nat.le_refl _, by simp [St.nil], by simp [St.nil], Nat.le_refl _, by simp [St.nil]⟩
theorem StI.weak (h : StI s l) (hx : x.kind ≠ 1) : StI s (l ++ [x]) :=
  ⟨by rw [enters_snoc, if_neg hx, Int.add_zero]; exact h.bal, by have := h.ll; simp; omega, fun y hy => let ⟨h1, h2, h3, z, hz, h4⟩ := h.lp y hy; ⟨h1, h2, h3, z, List.mem_append_left _ hz, h4⟩, by have := h.pl; simp; omega,
   fun y hy => let ⟨h1, h2, h3, z, hz, h4⟩ := h.pp y hy; ⟨h1, h2, h3, z, List.mem_append_left _ hz, h4⟩, h.pn, by have := h.il; simp; omega, fun i hi => by rw [List.map_append]; exact List.mem_append_left _ (h.is i hi)⟩
theorem StI.bl {s' : St} (h : StI s l) (hb : Bal s' (enters l)) (e : s'.leases = s.leases ∧ s'.pledges = s.pledges ∧ s'.idle = s.idle) : StI s' l :=
 ⟨hb, by rw [e.1]; exact h.ll, by rw [e.1]; exact h.lp, by rw [e.2.1]; exact h.pl, by rw [e.2.1]; exact h.pp, by rw [e.2.1]; exact h.pn, by rw [e.2.2]; exact h.il, by rw [e.2.2]; exact h.is⟩
theorem StI.stb (h : StI s l) (he : enters l ≤ 1000000000) (hl : l.length ≤ 400) : StB s :=
  ⟨by have := h.ll; omega, fun x hx => by have := (h.lp x hx).1; omega, by have := h.pl; omega, fun x hx => by have := (h.pp x hx).1; omega, fun x hx => ⟨(h.pp x hx).2.1, (h.pp x hx).2.2.1⟩, h.pn,
   fun o i => ⟨h.bal.nn o i, by have := h.bal.src_le o i; have := h.bal.holds_le o; omega⟩, fun o => ⟨h.bal.holds_nn o, by have := h.bal.holds_le o; omega⟩⟩
theorem StI.new (h : StI s l) (hn : x.id ∉ l.map (·.id)) : ∀ p ∈ s.pledges, p.deed ≠ x.id := fun p hp e => by
 obtain ⟨_, _, _, y, hy, _, rfl⟩ := h.pp p hp
 exact hn (e ▸ List.mem_map.2 ⟨y, hy, rfl⟩)
theorem StI.heirs (h : StI s l) (he : enters l ≤ 1000000000) (hl : l.length ≤ 400) (hf : formed x = true) (hk : x.kind = 3) (hp : 0 < free s x.frm x.day) (i : Nat) :
  StI (movesS x.frm (x.heirs.take i) ((wholeS (free s x.frm x.day) x.shares).take i) s) l := by
 have hh := heirs_facts (formed_heirs hf hk)
 have hB := h.stb he hl
 have h1 := hB.outS (o := x.frm) (day := x.day)
 have h2 := hB.pledged (o := x.frm)
 have h3 := hB.hb x.frm
 have hfr : free s x.frm x.day ≤ 1000000000 := by unfold free; omega
 refine h.bl (Bal.moves hh.2.2.1 _ _ (fun y hy => hh.2.2.2.1 y (List.mem_of_mem_take hy)) (fun k hk' => ?_) h.bal) (movesS_rest _ _ _)
 obtain ⟨j, hj⟩ := List.getElem?_of_mem (List.mem_of_mem_take hk')
 exact (whole_bd (by omega) (fun z hz => by have := hh.2.2.2.2 z hz; omega) (sum_pos hh.2.2.2.2 (by omega)) hj).1
theorem StI.redeem (h : StI s l) (id : Int) : StI (redeemS s id) l := by
 have hsub : ∀ p ∈ (redeemS s id).pledges, p ∈ s.pledges := fun p hp => (List.mem_filter.1 hp).1
 exact ⟨⟨h.bal.nn, h.bal.z, h.bal.hs, h.bal.tot⟩, h.ll, h.lp, Nat.le_trans (List.length_filter_le _ _) h.pl, fun p hp => h.pp p (hsub p hp), h.pn.sublist (List.filter_sublist.map _), h.il, h.is⟩
theorem StI.step (h : StI s l) (he : enters l ≤ 1000000000) (hl : l.length ≤ 400) (hf : formed x = true) (hk : x.kind ≠ 8) (hn : x.id ∉ l.map (·.id)) : StI (try1 s x) (l ++ [x]) := by
 have hidle : x.kind ≠ 1 → StI (idleS s x.id) (l ++ [x]) := fun hx => by
  have h1 := h.weak hx
  exact ⟨⟨h1.bal.nn, h1.bal.z, h1.bal.hs, h1.bal.tot⟩, h1.ll, h1.lp, h1.pl, h1.pp, h1.pn, by have := h.il; simp [idleS]; omega, fun i hi => by
   rcases List.mem_append.1 hi with hi | hi
   ·exact h1.is i hi
   simp at hi; subst hi; simp⟩
 rcases formed_kinds hf with k | k | k | k | k | k | k | k
 ·rw [try_some (do_enter k)]
  have hq := formed_ent hf k
  have hi := formed_id hf
  have h1 := h.bal.add (o := x.to) (id := x.id) (n := x.parts) hq.1 hi.1 (by have := h.bal.nn x.to x.id; omega)
  refine ⟨by rw [enters_snoc, if_pos k]; exact h1, ?_, ?_, ?_, ?_, h.pn, ?_, ?_⟩
  ·have := h.ll; simp [addS]; omega
  ·intro y hy; obtain ⟨h1, h2, h3, z, hz, h4⟩ := h.lp y hy; exact ⟨h1, h2, h3, z, List.mem_append_left _ hz, h4⟩
  ·have := h.pl; simp [addS]; omega
  ·intro y hy; obtain ⟨h1, h2, h3, z, hz, h4⟩ := h.pp y hy; exact ⟨h1, h2, h3, z, List.mem_append_left _ hz, h4⟩
  ·have := h.il; simp [addS]; omega
  intro i hi; rw [List.map_append]; exact List.mem_append_left _ (h.is i hi)
 ·have hq := formed_two hf (.inl k)
  by_cases hp : x.parts ≤ free s x.frm x.day
  ·rw [try_some (do_grant k hp)]
   exact (h.bl (h.bal.move hq.1 hq.2.1 (by omega)) moveS_rest).weak (by omega)
  rw [try_none (do_grant0 k hp)]; exact hidle (by omega)
 ·by_cases hp : 0 < free s x.frm x.day
  ·rw [try_some (do_heirs k hp)]
   have hh := heirs_facts (formed_heirs hf k)
   have h1 := h.heirs he hl hf k hp x.heirs.length
   rw [List.take_length, List.take_of_length_le (by rw [whole_len]; omega)] at h1
   exact h1.weak (by omega)
  rw [try_none (do_heirs0 k hp)]; exact hidle (by omega)
 ·have hq := formed_two hf (.inr (.inl k))
  by_cases hp : x.parts ≤ free s x.frm x.day
  ·rw [try_some (do_lease k hp)]
   have h1 := h.weak (x := x) (by omega)
   refine ⟨⟨h1.bal.nn, h1.bal.z, h1.bal.hs, h1.bal.tot⟩, by have := h.ll; simp [leaseS]; omega, fun y hy => ?_, h1.pl, h1.pp, h1.pn, h1.il, h1.is⟩
   rcases List.mem_append.1 hy with hy | hy
   ·exact h1.lp y hy
   simp at hy; subst hy; exact ⟨hq.2.2.2, hq.1, hq.2.1, x, by simp, k, rfl⟩
  rw [try_none (do_lease0 k hp)]; exact hidle (by omega)
 ·have hq := formed_two hf (.inr (.inr k))
  by_cases hp : x.parts ≤ free s x.frm x.day
  ·rw [try_some (do_pledge k hp)]
   have h1 := h.weak (x := x) (by omega)
   refine ⟨⟨h1.bal.nn, h1.bal.z, h1.bal.hs, h1.bal.tot⟩, h1.ll, h1.lp, by have := h.pl; simp [pledgeS]; omega, fun y hy => ?_, ?_, h1.il, h1.is⟩
   ·rcases List.mem_append.1 hy with hy | hy
    ·exact h1.pp y hy
    simp at hy; subst hy; exact ⟨hq.2.2.2, hq.1, hq.2.1, x, by simp, k, rfl⟩
   simp only [pledgeS, List.map_append]
   refine List.nodup_append.2 ⟨h.pn, by simp, fun a ha b hb => ?_⟩
   obtain ⟨p, hp', rfl⟩ := List.mem_map.1 ha
   simp at hb; subst hb
   exact h.new hn p hp'
  rw [try_none (do_pledge0 k hp)]; exact hidle (by omega)
 ·cases hp : plOf s x.of with
  | some p => rw [try_some (do_redeem k hp)]; exact (h.redeem _).weak (by omega)
  | none => rw [try_none (do_redeem0 k hp)]; exact hidle (by omega)
 ·cases hp : plOf s x.of with
  | some p =>
   rw [try_some (do_seize k hp)]
   have hpp := h.pp p (plOf_mem hp).1
   exact ((h.redeem x.of).bl ((h.redeem x.of).bal.move hpp.2.1 hpp.2.2.1 (by omega)) moveS_rest).weak (by omega)
  | none => rw [try_none (do_seize0 k hp)]; exact hidle (by omega)
 exact absurd k hk
theorem PlayL.pre (h : PlayL (t ++ l)) : PlayL t := by
 refine ⟨fun x hx => h.f x (List.mem_append_left _ hx), fun x hx => h.k x (List.mem_append_left _ hx), ?_, ?_, ?_⟩
 ·have := h.nd; rw [List.map_append] at this; exact (List.nodup_append.1 this).1
 ·have h1 := h.e
  have h2 : enters (t ++ l) = enters t + enters l := by
   have : ∀ (l t : List D), enters (t ++ l) = enters t + enters l := by
    intro l
    induction l with
    | nil => intro t; simp [enters, sumI]
    | cons x l ih =>
     intro t
     have e1 : t ++ x :: l = (t ++ [x]) ++ l := by simp
     rw [e1, ih, enters_snoc]
     have e2 : enters (x :: l) = (if x.kind = 1 then x.parts else 0) + enters l := by rw [enters, List.map_cons, sumI_cons]; rfl
     rw [e2]; omega
   exact this l t
  have h3 := (enters_bd (l := l) fun y hy => h.f y (List.mem_append_right _ hy)).1
  omega
 have := h.len; rw [List.length_append] at this; omega
theorem play_inv : ∀ (n : Nat) {l : List D}, l.length = n → PlayL l → StI (play l) l := by
 intro n
 induction n with
 | zero =>
  intro l hl _
  obtain rfl := List.length_eq_zero_iff.1 hl
  exact StI.nil
 | succ n ih =>
  intro l hl h
  have hne : l ≠ [] := fun e => by subst e; simp at hl
  obtain ⟨t, x, rfl⟩ : ∃ t x, l = t ++ [x] := ⟨l.dropLast, l.getLast hne, (List.dropLast_concat_getLast hne).symm⟩
  have ht := h.pre
  have h1 := ih (by simpa using hl) ht
  rw [play_snoc]
  have hnd := h.nd
  rw [List.map_append, List.nodup_append] at hnd
  exact h1.step ht.e ht.len (h.f x (by simp)) (h.k x (by simp)) fun hm => hnd.2.2 x.id hm x.id (by simp) rfl
structure PlayOk (t : List D) (a : D) : Prop where
 f : formed a = true
 k : a.kind = 1 ∨ a.kind = 2 ∨ a.kind = 3 ∨ a.kind = 4 ∨ a.kind = 5 ∨ a.kind = 6 ∨ a.kind = 7
 b : StB (play t)
 il : (play t).idle.length ≤ 1000
 nw : ∀ p ∈ (play t).pledges, p.deed ≠ a.id
 m : a.kind = 3 → 0 < free (play t) a.frm a.day → ∀ i, StB (movesS a.frm (a.heirs.take i) ((wholeS (free (play t) a.frm a.day) a.shares).take i) (play t))
theorem PlayL.at {a : D} {r : List D} (h : PlayL (t ++ a :: r)) : PlayOk t a := by
 have e : t ++ a :: r = (t ++ [a]) ++ r := by simp
 have h1 := h.pre
 have hI := play_inv _ rfl h1
 have hnd := h.nd
 rw [List.map_append, List.map_cons, List.nodup_append] at hnd
 have hk := formed_kinds (h.f a (by simp))
 have hk8 := h.k a (by simp)
 exact ⟨h.f a (by simp), by omega, hI.stb h1.e h1.len, by have := hI.il; have := h1.len; omega, hI.new fun hm => hnd.2.2 a.id hm a.id (by simp) rfl,
  fun k hp i => (hI.heirs h1.e h1.len (h.f a (by simp)) k hp i).stb h1.e h1.len⟩
theorem PlayL.filter (h : PlayL l) (p : D → Bool) : PlayL (l.filter p) := by
 refine ⟨fun x hx => h.f x (List.mem_filter.1 hx).1, fun x hx => h.k x (List.mem_filter.1 hx).1, h.nd.sublist (List.filter_sublist.map _), ?_, Nat.le_trans (List.length_filter_le _ _) h.len⟩
 have : enters (l.filter p) ≤ enters l := by
  have hf := h.f
  clear h
  induction l with
  | nil => exact Int.le_refl _
  | cons x l ih =>
   have h1 := ih fun y hy => hf y (List.mem_cons_of_mem _ hy)
   have e2 : ∀ l : List D, enters (x :: l) = (if x.kind = 1 then x.parts else 0) + enters l := fun l => by rw [enters, List.map_cons, sumI_cons]; rfl
   have h2 : 0 ≤ (if x.kind = 1 then x.parts else 0) := by
    split
    ·next k => have := formed_parts (hf x (List.mem_cons_self ..)) k; omega
    omega
   rw [List.filter_cons]
   split
   ·rw [e2, e2]; omega
   rw [e2]; omega
 have := h.e
 omega
end
end Go.Vk.Deed

namespace Go.Vk.Deed
open Go Go.Vk
theorem PlayL.nil : PlayL [] := ⟨by simp, by simp, by simp, by simp [enters, sumI], by simp⟩
end Go.Vk.Deed

namespace Go.Vk.Deed
open Go Go.Vk
section
variable {s : St} {l t : List D} {x y : D}
end
theorem _root_.Go.Vk.Keep.old {X : Nat → Prop} {w0 w w1 : World} (S : Keep X w w1) (h0 : Le w0 w) (hX : ∀ b, X b → w0.heap.size ≤ b) : Le w0 w1 :=
 ⟨S.os.trans h0.os, S.tape.trans h0.tape, S.output.trans h0.output, Nat.le_trans h0.size S.size, fun b hb _ =>
  (S.block b (Nat.lt_of_lt_of_le hb h0.size) fun hx => by have := hX b hx; omega).trans (h0.block b hb id), Nat.le_trans h0.drawn S.drawn⟩
theorem _root_.Go.Vk.Own.beside {X : Nat → Prop} {w0 w w1 : World} {L : List Rsc} {r s : Rsc} (S : Own X w0 w L) (j k : Nat) (hj : L[j]? = some r) (hk : L[k]? = some s) (hjk : k ≠ j) (h : Keep r.fp w w1) : s.ok w1 :=
 s.st (fun b hb => h.block b (S.bd k s hk b hb).1 (S.dj k j s r hk hj hjk b hb)) (S.ok k s hk)
end Go.Vk.Deed

namespace Go.Vk.Mark
open Go Go.Vk
section
variable {α : Type} {l : List α} {i : Nat} {a : α}
theorem take_in (h : l[i]? = some a) : ∃ s, l = l.take i ++ a :: s := by
 obtain ⟨h1, h2⟩ := List.getElem?_eq_some_iff.1 h
 exact ⟨l.drop (i + 1), by rw [← h2, ← List.drop_eq_getElem_cons h1, List.take_append_drop]⟩
theorem take_sn (h : l[i]? = some a) : l.take (i + 1) = l.take i ++ [a] := by rw [List.take_add_one, h]; rfl
theorem pre_le {s t : List α} (h : l = t ++ a :: s) : t.length ≤ l.length := by rw [h, List.length_append]; omega
end
def idxO (cz : List Clm) (o : Int) : Int := Go.Vk.Flow.idx (fun a : Clm => decide (a.owner = o)) cz
def mskS (cz : List Clm) (m : Nat) (o : Int) : Nat := if 0 ≤ idxO cz o then m ||| 1 * 2 ^ (idxO cz o).toNat else m
def mskP (cz : List Clm) (l : List Int) : Nat := l.foldl (mskS cz) 0
def cntOf (ms : List Nat) (N : Nat) : List Int := (List.range N).map fun s => ((ms.filter fun m => decide (m = s)).length : Nat)
section
variable {cz : List Clm} {l : List Int} {o : Int} {q m N : Nat} {ms : List Nat}
theorem msk_snoc : mskP cz (l ++ [o]) = mskS cz (mskP cz l) o := by unfold mskP; rw [List.foldl_append]; rfl
theorem msk_yes (h : idxO cz o = q) : mskP cz (l ++ [o]) = mskP cz l ||| 1 * 2 ^ q := by
 rw [msk_snoc, mskS, if_pos (by omega), h]; rfl
theorem msk_no (h : ¬ 0 ≤ idxO cz o) : mskP cz (l ++ [o]) = mskP cz l := by rw [msk_snoc, mskS, if_neg h]
theorem idxO_lt (h : idxO cz o = q) : q < cz.length := by
 unfold idxO Go.Vk.Flow.idx at h
 cases e : cz.findIdx? (fun a : Clm => decide (a.owner = o)) with
 | none => rw [e] at h; simp only at h; omega
 | some i =>
  rw [e] at h; simp only at h
  have := (List.findIdx?_eq_some_iff_findIdx_eq.1 e).1
  omega
theorem mskS_lt (h : m < 2 ^ cz.length) : mskS cz m o < 2 ^ cz.length := by
 unfold mskS
 split
 ·next g =>
  refine Nat.or_lt_two_pow h ?_
  have : (idxO cz o).toNat < cz.length := idxO_lt (o := o) (by omega)
  rw [Nat.one_mul]; exact Nat.pow_lt_pow_right (by omega) this
 exact h
theorem msk_lt : mskP cz l < 2 ^ cz.length := by
 unfold mskP
 have : ∀ (l : List Int) (m : Nat), m < 2 ^ cz.length → l.foldl (mskS cz) m < 2 ^ cz.length := fun l => by
  induction l with
  | nil => exact fun m h => h
  | cons o l ih => exact fun m h => ih _ (mskS_lt h)
 exact this l 0 (Nat.pow_pos (by omega))
theorem cnt_len : (cntOf ms N).length = N := by simp [cntOf]
theorem cnt_nil : List.replicate N (0 : Int) = cntOf [] N := by
 refine List.ext_getElem? fun s => ?_
 by_cases h : s < N <;> simp [cntOf, h]
theorem cnt_get (h : m < N) : (cntOf ms N)[m]? = some (((ms.filter fun x => decide (x = m)).length : Nat) : Int) := by simp [cntOf, h]
theorem cnt_snoc (h : m < N) : (cntOf ms N).set m ((((ms.filter fun x => decide (x = m)).length : Nat) : Int) + 1) = cntOf (ms ++ [m]) N := by
 refine List.ext_getElem? fun s => ?_
 rw [List.getElem?_set, cnt_len]
 by_cases hs : s < N
 ·rw [cnt_get hs, cnt_get hs, List.filter_append, List.length_append]
  by_cases e : m = s
  ·subst e; rw [if_pos rfl, if_pos h]; simp
  rw [if_neg e]; simp [e]
 rw [List.getElem?_eq_none (by rw [cnt_len]; omega), List.getElem?_eq_none (by rw [cnt_len]; omega), if_neg (by omega)]
theorem cnt_bd : 0 ≤ (((ms.filter fun x => decide (x = m)).length : Nat) : Int) ∧ (((ms.filter fun x => decide (x = m)).length : Nat) : Int) ≤ ms.length := by
 have := List.length_filter_le (fun x => decide (x = m)) ms
 omega
end
section
variable {b : Sm} {day e : Int} {right : Bool} {found : List Sg} {cs : List Clm}
theorem bgE_1 (hn : e ≠ 0) (h : e = openE b day right) : e = beginE b day right found cs := by unfold beginE fstE; rw [← h, if_neg hn]
theorem bgE_2 (h : openE b day right = 0) (hn : foundE found ≠ 0) : foundE found = beginE b day right found cs := by unfold beginE fstE; rw [if_pos h, if_neg hn]
theorem bgE_3 (h : openE b day right = 0) (hf : foundE found = 0) : claimE cs = beginE b day right found cs := by unfold beginE fstE; rw [if_pos h, if_pos hf]
theorem claim_ok (h : claimE cs = 0) : cs.length ≤ 10 ∧ (∀ c ∈ cs, claimB c = true) ∧ twiceB sameO cs = false := by
 rw [claimE_eq] at h
 split at h
 ·cases h
 split at h
 ·cases h
 split at h
 ·cases h
 next g1 g2 g3 => exact ⟨by omega, List.all_eq_true.1 (by simpa using g2), by simpa using g3⟩
end
theorem besideRO {X : Nat → Prop} {w0 w w1 : World} {L : List Rsc} {r s : Rsc} (S : Own X w0 w L) (j k : Nat) (hj : L[j]? = some r) (hk : L[k]? = some s) (hjk : k ≠ j) (h : Keep r.fp w w1) : RO s w1 :=
 ⟨S.beside j k hj hk hjk h, fun b hb => Nat.lt_of_lt_of_le (S.bd k s hk b hb).1 h.size⟩
end Go.Vk.Mark

namespace Go.Vk.Mark
open Go Go.Vk
def wornW : List UInt8 := [119, 111, 114, 110]
def earW : List (List UInt8) := [[112, 108, 97, 105, 110], [99, 114, 111, 112, 112, 101, 100], [102, 111, 114, 107, 101, 100], [114, 105, 116, 116, 101, 100], [104, 111, 108, 101, 100]]
def colW : List (List UInt8) := [[98, 97, 114, 101], [114, 101, 100], [98, 108, 117, 101], [103, 114, 101, 101, 110], [98, 108, 97, 99, 107]]
def wordsW (p : Nat) : List (List UInt8) := if p < 2 then earW else colW
def sgnW (ws : List (List UInt8)) (s : List UInt8) : Option Int :=
 if s = wornW then some 9 else if Go.Vk.Flow.idx (fun x => decide (s = x)) ws < 0 then none else some (Go.Vk.Flow.idx (fun x => decide (s = x)) ws)
def sgAt (l : List (List UInt8)) (p : Nat) : Option Int := match l[p]? with
 | some s => sgnW (wordsW p) s
 | none => none
def seenW (l : List (List UInt8)) : Option Sg := if l.length = 6 ∧ (List.range 6).all (fun p => (sgAt l p).isSome) = true then some (Sg.of fun p => (sgAt l p).getD 0) else none
def seenP (l : List (List UInt8)) (i : Nat) : Sg := Sg.of fun p => if p < i then (sgAt l p).getD 0 else 0
section
variable {l : List (List UInt8)} {ws : List (List UInt8)} {s : List UInt8} {i : Nat}
theorem seen_step (hi : i < 6) : (seenP l i).put i ((sgAt l i).getD 0) = seenP l (i + 1) := by
 unfold Sg.put seenP
 refine sg_congr fun k hk => ?_
 by_cases e : k = i
 ·subst e; rw [if_pos rfl, if_pos (by omega)]
 rw [if_neg e, sg_of_get hk]
 by_cases g : k < i
 ·rw [if_pos g, if_pos (by omega)]
 rw [if_neg g, if_neg (by omega)]
theorem seen_yes (hl : l.length = 6) (h : ∀ q, q < 6 → (sgAt l q).isSome = true) : seenW l = some (seenP l 6) := by
 unfold seenW
 rw [if_pos ⟨hl, List.all_eq_true.2 fun q hq => h q (List.mem_range.1 hq)⟩]
 exact congrArg some (sg_congr fun k hk => by rw [if_pos hk])
theorem seen_no1 (hl : ¬ l.length = 6) : seenW l = none := by unfold seenW; rw [if_neg fun h => hl h.1]
theorem seen_no2 (hi : i < 6) (h : sgAt l i = none) : seenW l = none := by
 unfold seenW
 rw [if_neg]
 rintro ⟨_, g⟩
 have := List.all_eq_true.1 g i (List.mem_range.2 hi)
 rw [h] at this; cases this
theorem at_some {g : Int} (hs : l[i]? = some s) (h : sgnW (wordsW i) s = some g) : sgAt l i = some g := by unfold sgAt; rw [hs]; exact h
theorem at_none (hs : l[i]? = some s) (h : sgnW (wordsW i) s = none) : sgAt l i = none := by unfold sgAt; rw [hs]; exact h
theorem sgn_worn (h : s = wornW) : sgnW ws s = some 9 := by unfold sgnW; rw [if_pos h]
theorem sgn_idx (h : ¬ s = wornW) (hi : 0 ≤ Go.Vk.Flow.idx (fun x => decide (s = x)) ws) : sgnW ws s = some (Go.Vk.Flow.idx (fun x => decide (s = x)) ws) := by unfold sgnW; rw [if_neg h, if_neg (by omega)]
theorem sgn_no (h : ¬ s = wornW) (hi : ¬ 0 ≤ Go.Vk.Flow.idx (fun x => decide (s = x)) ws) : sgnW ws s = none := by unfold sgnW; rw [if_neg h, if_pos (by omega)]
theorem idx_lt5 (h : ws.length = 5) : Go.Vk.Flow.idx (fun x => decide (s = x)) ws ≤ 4 := by
 unfold Go.Vk.Flow.idx
 cases e : ws.findIdx? (fun x => decide (s = x)) with
 | none => simp only; omega
 | some q =>
  simp only
  have := (List.findIdx?_eq_some_iff_findIdx_eq.1 e).1
  omega
theorem words_len (p : Nat) : (wordsW p).length = 5 := by unfold wordsW; split <;> rfl
end
end Go.Vk.Mark

namespace Go.Vk.Mark
open Go Go.Vk
def subB (n k m s : Nat) : Bool := (List.range n).all fun j => if j < k then (!m.testBit j || s.testBit j) else decide (m.testBit j = s.testBit j)
section
variable {n k m s : Nat} {ms : List Nat}
theorem sub_iff : subB n k m s = true ↔ ∀ j, j < n → (j < k → m.testBit j = true → s.testBit j = true) ∧ (k ≤ j → m.testBit j = s.testBit j) := by
 unfold subB
 rw [List.all_eq_true]
 constructor
 ·intro h j hj
  have := h j (List.mem_range.2 hj)
  by_cases g : j < k
  ·rw [if_pos g] at this
   refine ⟨fun _ h1 => ?_, fun h2 => by omega⟩
   rw [h1] at this; simpa using this
  rw [if_neg g] at this
  exact ⟨fun h1 => absurd h1 g, fun _ => of_decide_eq_true this⟩
 intro h j hj
 have h1 := h j (List.mem_range.1 hj)
 by_cases g : j < k
 ·rw [if_pos g]
  cases e : m.testBit j with
  | false => rfl
  | true => rw [h1.1 g e]; rfl
 rw [if_neg g]; exact decide_eq_true (h1.2 (by omega))
theorem bit_out (h : m < 2 ^ n) {j : Nat} (hj : n ≤ j) : m.testBit j = false := Nat.testBit_lt_two_pow (Nat.lt_of_lt_of_le h (Nat.pow_le_pow_right (by omega) hj))
theorem sub_zero (hm : m < 2 ^ n) (hs : s < 2 ^ n) : subB n 0 m s = decide (m = s) := by
 rw [Bool.eq_iff_iff, sub_iff, decide_eq_true_iff]
 constructor
 ·intro h
  refine Nat.eq_of_testBit_eq fun j => ?_
  by_cases g : j < n
  ·exact (h j g).2 (Nat.zero_le _)
  rw [bit_out hm (by omega), bit_out hs (by omega)]
 rintro rfl j _
 exact ⟨fun _ h => h, fun _ => rfl⟩
end
end Go.Vk.Mark

namespace Go.Vk.Mark
open Go Go.Vk
open Go.Vk.Deed (rng rng_iff owners sumI)
def meetB (n m s : Nat) : Bool := (List.range n).any fun k => s.testBit k && m.testBit k
section
variable {n m s : Nat} {ms : List Nat} {cz : List Clm}
theorem idxO_iff (hd : ∀ (i j : Nat) (a c : Clm), cz[i]? = some a → cz[j]? = some c → a.owner = c.owner → i = j) {k : Nat} {c : Clm} (hc : cz[k]? = some c) {o : Int} : idxO cz o = k ↔ c.owner = o := by
 unfold idxO Go.Vk.Flow.idx
 cases e : cz.findIdx? (fun a : Clm => decide (a.owner = o)) with
 | none =>
  have := List.findIdx?_eq_none_iff.1 e c (List.mem_of_getElem? hc)
  simp only [decide_eq_false_iff_not] at this
  constructor
  ·intro g; simp only at g; omega
  intro g; exact absurd g this
 | some i =>
  obtain ⟨hi, h2, _⟩ := List.findIdx?_eq_some_iff_getElem.1 e
  have ho : cz[i].owner = o := by simpa using h2
  constructor
  ·intro g
   simp only at g
   obtain rfl : i = k := by omega
   rw [List.getElem?_eq_getElem hi] at hc
   cases hc; exact ho
  intro g
  have := hd i k _ c (List.getElem?_eq_getElem hi) hc (by rw [ho, g])
  simp only; omega
end
end Go.Vk.Mark

namespace Go.Vk.Mark
open Go Go.Vk
section
variable {ms : List Nat} {N t i j : Nat} {cz : List Clm} {c : Clm}
theorem give_claim (hd : ∀ (i j : Nat) (a c : Clm), cz[i]? = some a → cz[j]? = some c → a.owner = c.owner → i = j) (hc : cz[j]? = some c) : giveC cz j 1 = lessC cz c.owner := by
 rw [← giveC_at hc]
 refine List.ext_getElem? fun k => ?_
 unfold lessC
 rw [List.getElem?_set, List.getElem?_map]
 by_cases e : j = k
 ·subst e
  rw [if_pos rfl, if_pos (List.getElem?_eq_some_iff.1 hc).1, hc]
  simp
 rw [if_neg e]
 cases h : cz[k]? with
 | none => rfl
 | some a =>
  have : ¬ a.owner = c.owner := fun g => e (hd k j a c h hc g).symm
  simp [this]
theorem less_owners {o : Int} : (lessC cz o).map (·.owner) = cz.map (·.owner) := by
 unfold lessC
 rw [List.map_map]
 refine List.map_congr_left fun c _ => ?_
 show (if c.owner = o then (⟨c.owner, c.number - 1⟩ : Clm) else c).owner = c.owner
 split <;> rfl
theorem apart_of (h : twiceB sameO cz = false) : ∀ (i j : Nat) (a c : Clm), cz[i]? = some a → cz[j]? = some c → a.owner = c.owner → i = j := by
 have key : ∀ (i j : Nat) (a c : Clm), cz[i]? = some a → cz[j]? = some c → a.owner = c.owner → ¬ i < j := fun i j a c ha hc e hij => by
  have : twiceB sameO cz = true := twice_iff.2 ⟨j, c, hc, List.any_eq_true.2 ⟨a, List.mem_of_getElem? (by rw [List.getElem?_take, if_pos hij]; exact ha), by unfold sameO; simp [e]⟩⟩
  rw [h] at this; cases this
 intro i j a c ha hc e
 rcases Nat.lt_trichotomy i j with g | g | g
 ·exact absurd g (key i j a c ha hc e)
 ·exact g
 exact absurd g (key j i c a hc ha e.symm)
end
end Go.Vk.Mark

namespace Go.Vk.Mark
open Go Go.Vk
open Go.Vk.Deed (rng rng_iff)
def czK (cz : List Clm) : Nat → List Clm
 | 0 => cz
 | j + 1 => giveC cz j 1
def tryB (cz : List Clm) (cn : List Int) (t : Nat) : Nat → Bool
 | 0 => canB cz (giveN cn t 1)
 | j + 1 => match cz[j]? with
  | some c => t.testBit j && decide (c.number ≠ 0) && canB (giveC cz j 1) (giveN cn t 1)
  | none => false
def ownK (cz : List Clm) : Nat → Int
 | 0 => 0
 | j + 1 => (cz[j]?.map (·.owner)).getD 0
def pickK (cz : List Clm) (cn : List Int) (t : Nat) : Option Nat := (List.range (cz.length + 1)).find? (tryB cz cn t)
def asg : List Nat → List Clm → List Int → List Int
 | [], _, _ => []
 | t :: ms, cz, cn => match pickK cz cn t with
  | some k => ownK cz k :: asg ms (czK cz k) (giveN cn t 1)
  | none => 0 :: asg ms cz cn
structure BnOk (ms : List Nat) (cz : List Clm) (cn : List Int) : Prop where
 l : cz.length ≤ 10
 b : ∀ c ∈ cz, 0 ≤ c.number ∧ c.number ≤ 60
 n : cn.length = 2 ^ cz.length
 c : ∀ x ∈ cn, 0 ≤ x ∧ x ≤ 60
 m : ∀ t ∈ ms, ∃ x, cn[t]? = some x ∧ ((ms.filter fun m => decide (m = t)).length : Int) ≤ x
section
variable {ms : List Nat} {cz : List Clm} {cn : List Int} {t k i : Nat}
theorem czK_len : (czK cz k).length = cz.length := by
 cases k with
 | zero => rfl
 | succ j => exact giveC_len
theorem BnOk.at (h : BnOk ms cz cn) (ht : t ∈ ms) : ∃ x, cn[t]? = some x ∧ 1 ≤ x ∧ x ≤ 60 := by
 obtain ⟨x, hx, hc⟩ := h.m t ht
 have h1 : t ∈ ms.filter fun m => decide (m = t) := List.mem_filter.2 ⟨ht, by simp⟩
 have h2 := List.length_pos_of_mem h1
 exact ⟨x, hx, by omega, (h.c x (List.mem_of_getElem? hx)).2⟩
theorem BnOk.lt (h : BnOk ms cz cn) (ht : t ∈ ms) : t < 2 ^ cz.length := by
 obtain ⟨x, hx, _⟩ := h.m t ht
 rw [← h.n]; exact (List.getElem?_eq_some_iff.1 hx).1
theorem BnOk.small (h : BnOk ms cz cn) (ht : t ∈ ms) : t < 1024 :=
 Nat.lt_of_lt_of_le (h.lt ht) (Nat.le_trans (Nat.pow_le_pow_right (n := 2) (by omega) h.l) (by decide))
theorem BnOk.tail (h : BnOk (t :: ms) cz cn) : BnOk ms cz cn := ⟨h.l, h.b, h.n, h.c, fun u hu => by
 obtain ⟨x, hx, hc⟩ := h.m u (.tail _ hu)
 refine ⟨x, hx, ?_⟩
 rw [List.filter_cons] at hc
 split at hc
 ·rw [List.length_cons] at hc; omega
 exact hc⟩
theorem try_succ {j : Nat} {c : Clm} (hc : cz[j]? = some c) : tryB cz cn t (j + 1) = (t.testBit j && decide (c.number ≠ 0) && canB (giveC cz j 1) (giveN cn t 1)) := by
 simp only [tryB, hc]
theorem BnOk.give (h : BnOk (t :: ms) cz cn) (hk : tryB cz cn t k = true) : BnOk ms (czK cz k) (giveN cn t 1) := by
 obtain ⟨x, hx, h1, h2⟩ := h.at (.head _)
 refine ⟨by rw [czK_len]; exact h.l, ?_, by rw [giveN_len, czK_len]; exact h.n, giveN_bd hx h1 h.c, fun u hu => ?_⟩
 ·cases k with
  | zero => exact h.b
  | succ j =>
   cases hc : cz[j]? with
   | none => simp [tryB, hc] at hk
   | some c =>
    rw [try_succ hc, Bool.and_eq_true, Bool.and_eq_true, decide_eq_true_eq] at hk
    exact giveC_bd hc hk.1.2 h.b
 obtain ⟨y, hy, hc⟩ := h.m u (.tail _ hu)
 rw [List.filter_cons] at hc
 by_cases e : t = u
 ·subst e
  rw [if_pos (by simp), List.length_cons] at hc
  rw [hx] at hy; cases hy
  exact ⟨x - 1, giveN_new hx, by omega⟩
 rw [if_neg (by simpa using e)] at hc
 refine ⟨y, ?_, hc⟩
 unfold giveN
 rw [List.getElem?_set, if_neg e]; exact hy
theorem try_le (h : tryB cz cn t k = true) : k < cz.length + 1 := by
 cases k with
 | zero => omega
 | succ j =>
  cases hc : cz[j]? with
  | none => simp [tryB, hc] at h
  | some c => have := (List.getElem?_eq_some_iff.1 hc).1; omega
theorem pick_some (h : tryB cz cn t k = true) (hn : ∀ q, q < k → tryB cz cn t q = false) : pickK cz cn t = some k := by
 have hk := try_le h
 unfold pickK
 rw [List.find?_eq_some_iff_append]
 refine ⟨h, List.range k, (List.range (cz.length + 1 - (k + 1))).map (k + 1 + ·), ?_, fun q hq => by simp [hn q (List.mem_range.1 hq)]⟩
 rw [show cz.length + 1 = (k + 1) + (cz.length + 1 - (k + 1)) by omega, List.range_add, List.range_succ, List.append_assoc]
 congr 2
 rw [show k + 1 + (cz.length + 1 - (k + 1)) - (k + 1) = cz.length + 1 - (k + 1) by omega]
 rfl
theorem pick_none (hn : ∀ q, q < cz.length + 1 → tryB cz cn t q = false) : pickK cz cn t = none :=
 List.find?_eq_none.2 fun q hq => by simp [hn q (List.mem_range.1 hq)]
theorem no_snoc {p : Nat → Bool} (hn : ∀ q, q < k → p q = false) (h : p k = false) : ∀ q, q < k + 1 → p q = false := fun q hq => by
 rcases Nat.lt_or_ge q k with g | g
 ·exact hn q g
 rw [show q = k by omega]; exact h
theorem drop_cons {α : Type} {l : List α} {a : α} (h : l[i]? = some a) : l.drop i = a :: l.drop (i + 1) := by
 obtain ⟨h1, h2⟩ := List.getElem?_eq_some_iff.1 h
 rw [← h2]; exact List.drop_eq_getElem_cons h1
theorem asg_step {l : List Int} (hl : l.length = ms.length) (hm : ms[i]? = some t) (hp : pickK cz cn t = some k) :
  (l.set i (ownK cz k)).take (i + 1) ++ asg (ms.drop (i + 1)) (czK cz k) (giveN cn t 1) = l.take i ++ asg (ms.drop i) cz cn := by
 have hi := (List.getElem?_eq_some_iff.1 hm).1
 rw [drop_cons hm]
 conv => rhs; unfold asg
 rw [hp]
 rw [List.take_add_one, List.getElem?_set_self (by omega), List.take_set_of_le (Nat.le_refl _)]
 simp
theorem asg_stay {l : List Int} (hl : l[i]? = some 0) (hm : ms[i]? = some t) (hp : pickK cz cn t = none) :
  l.take (i + 1) ++ asg (ms.drop (i + 1)) cz cn = l.take i ++ asg (ms.drop i) cz cn := by
 rw [drop_cons hm]
 conv => rhs; unfold asg
 rw [hp, List.take_add_one, hl]
 simp
theorem asg_end {l : List Int} (hl : l.length = ms.length) (h : i = ms.length) : l = l.take i ++ asg (ms.drop i) cz cn := by
 subst h
 rw [List.drop_length, ← hl, List.take_length]
 simp [asg]
theorem zeros_set {l : List Int} {n : Nat} {x : Int} (h : ∀ q, i ≤ q → q < n → l[q]? = some 0) : ∀ q, i + 1 ≤ q → q < n → (l.set i x)[q]? = some 0 := fun q h1 h2 => by
 rw [List.getElem?_set, if_neg (by omega)]; exact h q (by omega) h2
theorem zeros_rep {n : Nat} : ∀ q, 0 ≤ q → q < n → (List.replicate n (0 : Int))[q]? = some 0 := fun q _ h => by simp [h]
theorem own_succ {j : Nat} {c : Clm} (hc : cz[j]? = some c) : ownK cz (j + 1) = c.owner := by
 show (cz[j]?.map (·.owner)).getD 0 = _
 rw [hc]; rfl
def okP (cz : List Clm) (cn : List Int) (t k : Nat) : List Nat := (List.range k).filter (tryB cz cn t)
def lastO (cz : List Clm) (l : List Nat) : Int := match l.getLast? with
 | some k => ownK cz k
 | none => 0
def certO (cz : List Clm) (cn : List Int) (t : Nat) : Int := if (okP cz cn t (cz.length + 1)).length = 1 then lastO cz (okP cz cn t (cz.length + 1)) else 0
def cert (ms : List Nat) (cz : List Clm) (cn : List Int) : List Int := ms.map (certO cz cn)
theorem ok_yes (h : tryB cz cn t k = true) : okP cz cn t (k + 1) = okP cz cn t k ++ [k] := by
 unfold okP; rw [List.range_succ, List.filter_append]; simp [h]
theorem ok_no (h : tryB cz cn t k = false) : okP cz cn t (k + 1) = okP cz cn t k := by
 unfold okP; rw [List.range_succ, List.filter_append]; simp [h]
theorem ok_len : (okP cz cn t k).length ≤ k := by
 unfold okP; exact Nat.le_trans (List.length_filter_le _ _) (by simp)
theorem cert_no {t : Nat} (hm : ms[i]? = some t) (h : ((okP cz cn t (cz.length + 1)).length : Int) ≠ 1) : (ms.take i).map (certO cz cn) ++ [0] = (ms.take (i + 1)).map (certO cz cn) := by
 rw [take_sn hm, List.map_append]
 show _ = _ ++ [certO cz cn t]
 rw [certO, if_neg (by omega)]
theorem cert_yes {t : Nat} (hm : ms[i]? = some t) (h : ((okP cz cn t (cz.length + 1)).length : Int) = 1) : (ms.take i).map (certO cz cn) ++ [lastO cz (okP cz cn t (cz.length + 1))] = (ms.take (i + 1)).map (certO cz cn) := by
 rw [take_sn hm, List.map_append]
 show _ = _ ++ [certO cz cn t]
 rw [certO, if_pos (by omega)]
theorem last_snoc {l : List Nat} : lastO cz (l ++ [k]) = ownK cz k := by unfold lastO; rw [List.getLast?_concat]
end
abbrev mks (b : Sm) (day : Int) (found : List Sg) (cz : List Clm) : List Nat := found.map fun t => mskP cz (ownersOf b day t)
abbrev cnz (b : Sm) (day : Int) (found : List Sg) (cz : List Clm) : List Int := cntOf (mks b day found cz) (2 ^ cz.length)
section
variable {b : Sm} {day : Int} {right : Bool} {found : List Sg} {cs cz : List Clm}
theorem mks_len : (mks b day found cz).length = found.length := List.length_map _
theorem fst_zero {x y : Int} (h : fstE x y = 0) : x = 0 ∧ y = 0 := by
 unfold fstE at h
 split at h
 ·next g => exact ⟨g, h⟩
 next g => exact absurd h g
theorem begin_parts (h : beginE b day right found cs = 0) : openE b day right = 0 ∧ foundE found = 0 ∧ claimE cs = 0 :=
 let ⟨h1, h2⟩ := fst_zero h; let ⟨h3, h4⟩ := fst_zero h2; ⟨h1, h3, h4⟩
theorem bench_len (h : beginE b day right found cs = 0) : found.length ≤ 60 := (found_ok (begin_parts h).2.1).1
theorem bench_ok (h : beginE b day right found cs = 0) (hp : cz.Perm cs) : BnOk (mks b day found cz) cz (cnz b day found cz) := by
 obtain ⟨hl, hc, _⟩ := claim_ok (begin_parts h).2.2
 refine ⟨by rw [hp.length_eq]; exact hl, fun c h => ?_, cnt_len, fun x hx => ?_, fun t ht => ?_⟩
 ·have := hc c (hp.mem_iff.1 h)
  unfold claimB at this
  rw [Bool.and_eq_true, rng_iff] at this
  exact this.2
 ·obtain ⟨s, hs, rfl⟩ := List.mem_map.1 hx
  have := cnt_bd (ms := mks b day found cz) (m := s)
  rw [mks_len] at this
  have := bench_len h
  omega
 obtain ⟨q, _, rfl⟩ := List.mem_map.1 ht
 exact ⟨_, cnt_get msk_lt, Int.le_refl _⟩
end
end Go.Vk.Mark

namespace Go.Vk.Mark
open Go Go.Vk
open Go.Vk.Deed (cmpI)
def cmpL : List Int → List Int → Int
 | [], [] => 0
 | [], _ :: _ => -1
 | _ :: _, [] => 1
 | x :: a, y :: b => if cmpI x y = 0 then cmpL a b else cmpI x y
def cmp3 (a b : List Int) : Int := if cmpI a.length b.length = 0 then cmpL a b else cmpI a.length b.length
section
variable {a b : List Int} {i : Nat} {x y : Int}
theorem drop_at (h : a[i]? = some x) : a.drop i = x :: a.drop (i + 1) := by
 obtain ⟨h1, h2⟩ := List.getElem?_eq_some_iff.1 h
 rw [← h2, List.drop_eq_getElem_cons h1]
theorem cmp_over (hx : a[i]? = some x) (hb : b.length ≤ i) : cmpL (a.drop i) (b.drop i) = 1 := by
 rw [drop_at hx, List.drop_eq_nil_of_le hb]; rfl
theorem cmp_ne (hx : a[i]? = some x) (hy : b[i]? = some y) (h : cmpI x y ≠ 0) : cmpL (a.drop i) (b.drop i) = cmpI x y := by
 rw [drop_at hx, drop_at hy, cmpL, if_neg h]
theorem cmp_eq (hx : a[i]? = some x) (hy : b[i]? = some y) (h : cmpI x y = 0) : cmpL (a.drop i) (b.drop i) = cmpL (a.drop (i + 1)) (b.drop (i + 1)) := by
 rw [drop_at hx, drop_at hy, cmpL, if_pos h]
theorem cmp_end (h : a.length < b.length) : cmpL (a.drop a.length) (b.drop a.length) = -1 := by
 rw [List.drop_length, List.drop_eq_getElem_cons h]; rfl
theorem cmp_same (h : ¬ a.length < b.length) (h2 : a.length ≤ b.length) : cmpL (a.drop a.length) (b.drop a.length) = 0 := by
 rw [List.drop_length, List.drop_eq_nil_of_le (by omega)]; rfl
theorem cmpI_lt {x y : Int} : cmpI x y < 0 ↔ x < y := by unfold cmpI; split <;> (try split) <;> omega
theorem cmpI_eq {x y : Int} : cmpI x y = 0 ↔ x = y := by unfold cmpI; split <;> (try split) <;> omega
theorem cmpL_less : ∀ (a b : List Int), a.length = b.length → (cmpL a b < 0 ↔ lessL a b = true)
 | [], [], _ => by simp [cmpL, lessL]
 | [], _ :: _, h => by simp at h
 | _ :: _, [], h => by simp at h
 | x :: a, y :: b, h => by
  have ih := cmpL_less a b (by simpa using h)
  rw [cmpL, lessL]
  by_cases e : x = y
  ·rw [if_pos (cmpI_eq.2 e), if_pos e]; exact ih
  rw [if_neg (fun g => e (cmpI_eq.1 g)), if_neg e, decide_eq_true_iff]; exact cmpI_lt
theorem cmp3_less {a b : List Int} : cmp3 a b < 0 ↔ less a b = true := by
 unfold cmp3 less
 by_cases e : a.length = b.length
 ·rw [if_pos (cmpI_eq.2 (by omega)), if_neg (by omega)]; exact cmpL_less a b e
 rw [if_neg (fun g => e (by have := cmpI_eq.1 g; omega)), if_pos e, decide_eq_true_iff, cmpI_lt]; omega
end
end Go.Vk.Mark

namespace Go.Vk.Mark
open Go Go.Vk
def stepO (cz : List Clm) (o : Option (List Int)) (s : Nat) : Option (List Int) := match o with
 | none => some (lsP cz s cz.length)
 | some x => if less (lsP cz s cz.length) x = true then some (lsP cz s cz.length) else some x
def bestS (cz : List Clm) (l : List Nat) : Option (List Int) := l.foldl (stepO cz) none
def leastO (cz : List Clm) (o : Option (List Int)) : Int := match o with
 | none => cz.length + 1
 | some x => x.length
def popN (s : Nat) : Nat := ((List.range 10).filter s.testBit).length
def tab8 : ByteArray := ⟨#[0, 1, 1, 2, 1, 2, 2, 3, 1, 2, 2, 3, 2, 3, 3, 4, 1, 2, 2, 3, 2, 3, 3, 4, 2, 3, 3, 4, 3, 4, 4, 5, 1, 2, 2, 3, 2, 3, 3, 4, 2, 3, 3, 4, 3, 4, 4, 5, 2, 3, 3, 4, 3, 4, 4, 5, 3, 4, 4, 5, 4, 5, 5, 6, 1, 2, 2, 3, 2, 3, 3, 4, 2, 3, 3, 4, 3, 4, 4, 5, 2, 3, 3, 4, 3, 4, 4, 5, 3, 4, 4, 5, 4, 5, 5, 6, 2, 3, 3, 4, 3, 4, 4, 5, 3, 4, 4, 5, 4, 5, 5, 6, 3, 4, 4, 5, 4, 5, 5, 6, 4, 5, 5, 6, 5, 6, 6, 7, 1, 2, 2, 3, 2, 3, 3, 4, 2, 3, 3, 4, 3, 4, 4, 5, 2, 3, 3, 4, 3, 4, 4, 5, 3, 4, 4, 5, 4, 5, 5, 6, 2, 3, 3, 4, 3, 4, 4, 5, 3, 4, 4, 5, 4, 5, 5, 6, 3, 4, 4, 5, 4, 5, 5, 6, 4, 5, 5, 6, 5, 6, 6, 7, 2, 3, 3, 4, 3, 4, 4, 5, 3, 4, 4, 5, 4, 5, 5, 6, 3, 4, 4, 5, 4, 5, 5, 6, 4, 5, 5, 6, 5, 6, 6, 7, 3, 4, 4, 5, 4, 5, 5, 6, 4, 5, 5, 6, 5, 6, 6, 7, 4, 5, 5, 6, 5, 6, 6, 7, 5, 6, 6, 7, 6, 7, 7, 8]⟩
abbrev tab8N (i : Nat) : Nat := (tab8.data.getD i 0).toNat
theorem tab8_all : ((List.range 1024).all fun s => decide (tab8N (s / 2 ^ 8) + tab8N (s &&& 255) = popN s)) = true := by decide +kernel
theorem tab8_le : ((List.range 256).all fun i => decide (tab8N i ≤ 8)) = true := by decide +kernel
section
variable {cz : List Clm} {s : Nat} {l : List Nat} {x : List Int}
theorem tab8_pop (h : s < 1024) : tab8N (s / 2 ^ 8) + tab8N (s &&& 255) = popN s := of_decide_eq_true (List.all_eq_true.1 tab8_all s (List.mem_range.2 h))
theorem tab8_bd {i : Nat} (h : i < 256) : tab8N i ≤ 8 := of_decide_eq_true (List.all_eq_true.1 tab8_le i (List.mem_range.2 h))
theorem tab8_size : tab8.size = 256 := by decide +kernel
theorem ones_bd8 {x y : Nat} (hx : x ≤ 8) (hy : y ≤ 8) : (0 : Int) ≤ (x : Int) + (y : Int) ∧ (x : Int) + (y : Int) ≤ 255 := by omega
theorem ones_bd {x y : Nat} (hx : x ≤ 8) (hy : y ≤ 8) : (-9223372036854775808 : Int) ≤ (x : Int) + (y : Int) ∧ (x : Int) + (y : Int) ≤ 9223372036854775807 :=
 have h8 : (0 : Int) ≤ (x : Int) + (y : Int) ∧ (x : Int) + (y : Int) ≤ 16 := by omega
 ⟨Int.le_trans (by decide) h8.1, Int.le_trans h8.2 (by decide)⟩
theorem ls_pop_go : ∀ n, n ≤ cz.length → (lsP cz s n).length = ((List.range n).filter s.testBit).length
 | 0, _ => rfl
 | n + 1, h => by
  have ih := ls_pop_go n (by omega)
  obtain ⟨c, hc⟩ : ∃ c, cz[n]? = some c := ⟨_, List.getElem?_eq_getElem (by omega)⟩
  rw [List.range_succ, List.filter_append, List.length_append]
  cases e : s.testBit n with
  | true => rw [← ls_yes hc e, List.length_append, ih]; simp [e]
  | false => rw [← ls_no e, ih]; simp [e]
theorem ls_pop (hs : s < 2 ^ cz.length) (hl : cz.length ≤ 10) : (lsP cz s cz.length).length = popN s := by
 rw [ls_pop_go _ (Nat.le_refl _)]
 unfold popN
 rw [show (10 : Nat) = cz.length + (10 - cz.length) by omega, List.range_add, List.filter_append, List.length_append]
 have : ((List.range (10 - cz.length)).map (cz.length + ·)).filter s.testBit = [] := List.filter_eq_nil_iff.2 fun q hq => by
  obtain ⟨r, _, rfl⟩ := List.mem_map.1 hq
  rw [bit_out hs (by omega)]; decide
 rw [this]; rfl
theorem best_snoc : bestS cz (l ++ [s]) = stepO cz (bestS cz l) s := by unfold bestS; rw [List.foldl_append]; rfl
theorem best_len : ∀ (l : List Nat) (o : Option (List Int)), (o.getD []).length ≤ cz.length → ((l.foldl (stepO cz) o).getD []).length ≤ cz.length
 | [], _, h => h
 | s :: l, o, h => best_len l _ (by
  unfold stepO
  split
  ·exact ls_len
  split
  ·exact ls_len
  exact h)
theorem bestS_len : ((bestS cz l).getD []).length ≤ cz.length := best_len l none (Nat.zero_le _)
theorem less_long {a b : List Int} (h : b.length < a.length) : less a b = false := by
 unfold less
 rw [if_pos (by omega), decide_eq_false (by omega)]
theorem best_skip (hs : s < 2 ^ cz.length) (hl : cz.length ≤ 10) (h : leastO cz (bestS cz l) < popN s) : bestS cz (l ++ [s]) = bestS cz l := by
 have hp := ls_pop hs hl
 have := ls_len (cs := cz) (s := s) (i := cz.length)
 rw [best_snoc]
 unfold leastO at h
 unfold stepO
 cases e : bestS cz l with
 | none => rw [e] at h; simp only at h; omega
 | some x =>
  rw [e] at h; simp only at h
  simp only
  rw [if_neg (by rw [less_long (by omega)]; decide)]
theorem best_none (h : bestS cz l = none) : bestS cz (l ++ [s]) = some (lsP cz s cz.length) := by rw [best_snoc, h]; rfl
theorem best_less (h : cmp3 (lsP cz s cz.length) ((bestS cz l).getD []) < 0) : bestS cz (l ++ [s]) = some (lsP cz s cz.length) := by
 rw [best_snoc]
 unfold stepO
 cases e : bestS cz l with
 | none => rfl
 | some x =>
  rw [e] at h
  simp only
  rw [if_pos (show less _ x = true from cmp3_less.1 h)]
theorem best_not (h1 : (bestS cz l).isNone = false) (h : ¬ cmp3 (lsP cz s cz.length) ((bestS cz l).getD []) < 0) : bestS cz (l ++ [s]) = bestS cz l := by
 rw [best_snoc]
 unfold stepO
 cases e : bestS cz l with
 | none => rw [e] at h1; cases h1
 | some x =>
  rw [e] at h
  simp only
  rw [if_neg (show ¬ less _ x = true from fun g => h (cmp3_less.2 g))]
theorem ls_ne {cn : List Int} (hs : s < 2 ^ cz.length) (h : zshort cz cn s = true) : lsP cz s cz.length ≠ [] := fun e => by
 have h0 : s = 0 := by
  refine Nat.eq_of_testBit_eq fun i => ?_
  rw [Nat.zero_testBit]
  cases b : s.testBit i with
  | false => rfl
  | true =>
   have hi : i < cz.length := by
    rcases Nat.lt_or_ge i cz.length with g | g
    ·exact g
    rw [bit_out hs g] at b; cases b
   have := congrArg List.length e
   rw [ls_pop_go _ (Nat.le_refl _), List.length_nil] at this
   have h2 : i ∈ (List.range cz.length).filter s.testBit := List.mem_filter.2 ⟨List.mem_range.2 hi, b⟩
   have := List.length_pos_of_mem h2
   omega
 subst h0
 unfold zshort at h
 have hl : lessBits (2 ^ cz.length - 1) 0 = 2 ^ cz.length - 1 := by unfold lessBits; simp
 rw [hl, decide_eq_true_eq] at h
 have : needN cz 0 = 0 := by
  unfold needN inSet
  have : ∀ l : List Nat, Go.Vk.Deed.sumI (l.map fun k => if (0 : Nat).testBit k = true then (cz[k]?.map (·.number)).getD 0 else 0) = 0 := by
   intro l
   induction l with
   | nil => rfl
   | cons a l ih => rw [List.map_cons, Go.Vk.Deed.sumI_cons, ih]; simp
  exact this _
 omega
end
end Go.Vk.Mark

namespace Go.Vk.Mark
open Go Go.Vk
open Go.Vk.Deed (rng rng_iff owners sumI)
abbrev pairB (b : Sm) (m n : Mk) : Bool := (alike b m.s n.s).isSome
def rowP (b : Sm) (m : Mk) (l : List Mk) (j : Nat) : List Pr := ((l.take j).filter fun n => pairB b m n).map fun n => (m.owner, n.owner)
def rowAt (b : Sm) (day : Int) (i : Nat) : List Pr := match (force b day)[i]? with
 | some m => (((force b day).drop (i + 1)).filter fun n => pairB b m n).map fun n => (m.owner, n.owner)
 | none => []
def misP (b : Sm) (day : Int) (i : Nat) : List Pr := (List.range i).flatMap (rowAt b day)
section
variable {b : Sm} {day : Int} {i j n : Nat} {m a : Mk} {l : List Mk} {s : Sg}
theorem row_zero : rowP b m l 0 = [] := by simp [rowP]
theorem row_yes (ha : l[j]? = some a) (h : (alike b m.s a.s).isSome = true) : rowP b m l (j + 1) = rowP b m l j ++ [(m.owner, a.owner)] := by
 unfold rowP; rw [List.take_add_one, ha, List.filter_append]; simp [pairB, h]
theorem row_no (ha : l[j]? = some a) (h : (alike b m.s a.s).isSome = false) : rowP b m l (j + 1) = rowP b m l j := by
 unfold rowP; rw [List.take_add_one, ha, List.filter_append]; simp [pairB, h]
theorem mis_step (hm : (force b day)[i]? = some m) (hj : j = ((force b day).drop (i + 1)).length) : misP b day i ++ rowP b m ((force b day).drop (i + 1)) j = misP b day (i + 1) := by
 subst hj
 unfold misP rowP; rw [List.range_succ, List.flatMap_append, List.take_length]
 congr 1
 simp [rowAt, hm]
theorem row_len : (rowP b m l j).length ≤ l.length := by
 unfold rowP; rw [List.length_map]
 exact Nat.le_trans (List.length_filter_le ..) (by rw [List.length_take]; omega)
theorem rowAt_len (h : (force b day).length ≤ 40) : (rowAt b day i).length ≤ 40 := by
 unfold rowAt
 split
 ·rw [List.length_map]; exact Nat.le_trans (List.length_filter_le ..) (by rw [List.length_drop]; omega)
 exact Nat.zero_le _
theorem mis_len (h : (force b day).length ≤ 40) : (misP b day i).length ≤ i * 40 := by
 unfold misP
 induction i with
 | zero => simp
 | succ i ih =>
  rw [List.range_succ, List.flatMap_append, List.length_append]
  have := rowAt_len (i := i) h
  simp only [List.flatMap_cons, List.flatMap_nil, List.append_nil]
  omega
theorem sgOf_get (k : Nat) (hk : k < 6) : (sgOf n).get k = ((n / 5 ^ (5 - k) % 5 : Nat) : Int) := by
 match k, hk with
 | 0, _ => rfl
 | 1, _ => rfl
 | 2, _ => rfl
 | 3, _ => rfl
 | 4, _ => rfl
 | 5, _ => simp [sgOf, Sg.get, Sg.l]
theorem sgOf_clr : Clr (sgOf n) where
 ok := by constructor <;> (unfold B8 sgOf; dsimp only; omega)
 c := by
  rw [clear_iff]
  intro k hk
  rw [sgOf_get k hk]
  have := Nat.mod_lt (n / 5 ^ (5 - k)) (show 0 < 5 by omega)
  omega
def odo (n j : Nat) : Sg := Sg.of fun k => if j ≤ k then 0 else (sgOf n).get k
theorem odo_six : odo n 6 = sgOf n := sg_ext fun k hk => by rw [odo, sg_of_get hk, if_neg (by omega)]
theorem odo_get (hk : j < 6) : (odo n (j + 1)).get j = (sgOf n).get j := by rw [odo, sg_of_get hk, if_neg (by omega)]
theorem odo_put (hj : j < 6) : (odo n (j + 1)).put j 0 = odo n j := sg_ext fun k hk => by
 rw [Sg.put, sg_of_get hk, odo, sg_of_get hk, odo, sg_of_get hk]
 by_cases e : k = j
 ·subst e; simp
 rw [if_neg e]
 by_cases g : j ≤ k
 ·rw [if_pos (by omega), if_pos g]
 rw [if_neg (by omega), if_neg g]
theorem inc_at (n : Nat) : ∀ (j k : Nat), j < 6 → k < 6 → (∀ q, j + 1 ≤ q → q < 6 → n / 5 ^ (5 - q) % 5 = 4) → n / 5 ^ (5 - j) % 5 < 4 → (n + 1) / 5 ^ (5 - k) % 5 = if k = j then n / 5 ^ (5 - j) % 5 + 1 else if j + 1 ≤ k then 0 else n / 5 ^ (5 - k) % 5 := by
 intro j k hj hk h4 hx
 match j, hj with
 | 0, _ =>
  have hx : n / 3125 % 5 < 4 := hx
  have g1 : n / 625 % 5 = 4 := h4 1 (by omega) (by omega)
  have g2 : n / 125 % 5 = 4 := h4 2 (by omega) (by omega)
  have g3 : n / 25 % 5 = 4 := h4 3 (by omega) (by omega)
  have g4 : n / 5 % 5 = 4 := h4 4 (by omega) (by omega)
  have g5 : n / 1 % 5 = 4 := h4 5 (by omega) (by omega)
  have g : n % 3125 = 3124 := by clear hx; omega
  clear g1 g2 g3 g4 g5
  clear h4
  match k, hk with
  | 0, _ => show (n + 1) / 3125 % 5 = n / 3125 % 5 + 1; omega
  | 1, _ => show (n + 1) / 625 % 5 = 0; omega
  | 2, _ => show (n + 1) / 125 % 5 = 0; omega
  | 3, _ => show (n + 1) / 25 % 5 = 0; omega
  | 4, _ => show (n + 1) / 5 % 5 = 0; omega
  | 5, _ => show (n + 1) / 1 % 5 = 0; omega
 | 1, _ =>
  have hx : n / 625 % 5 < 4 := hx
  have g2 : n / 125 % 5 = 4 := h4 2 (by omega) (by omega)
  have g3 : n / 25 % 5 = 4 := h4 3 (by omega) (by omega)
  have g4 : n / 5 % 5 = 4 := h4 4 (by omega) (by omega)
  have g5 : n / 1 % 5 = 4 := h4 5 (by omega) (by omega)
  have g : n % 625 = 624 := by clear hx; omega
  clear g2 g3 g4 g5
  clear h4
  match k, hk with
  | 0, _ => show (n + 1) / 3125 % 5 = n / 3125 % 5; omega
  | 1, _ => show (n + 1) / 625 % 5 = n / 625 % 5 + 1; omega
  | 2, _ => show (n + 1) / 125 % 5 = 0; omega
  | 3, _ => show (n + 1) / 25 % 5 = 0; omega
  | 4, _ => show (n + 1) / 5 % 5 = 0; omega
  | 5, _ => show (n + 1) / 1 % 5 = 0; omega
 | 2, _ =>
  have hx : n / 125 % 5 < 4 := hx
  have g3 : n / 25 % 5 = 4 := h4 3 (by omega) (by omega)
  have g4 : n / 5 % 5 = 4 := h4 4 (by omega) (by omega)
  have g5 : n / 1 % 5 = 4 := h4 5 (by omega) (by omega)
  have g : n % 125 = 124 := by clear hx; omega
  clear g3 g4 g5
  clear h4
  match k, hk with
  | 0, _ => show (n + 1) / 3125 % 5 = n / 3125 % 5; omega
  | 1, _ => show (n + 1) / 625 % 5 = n / 625 % 5; omega
  | 2, _ => show (n + 1) / 125 % 5 = n / 125 % 5 + 1; omega
  | 3, _ => show (n + 1) / 25 % 5 = 0; omega
  | 4, _ => show (n + 1) / 5 % 5 = 0; omega
  | 5, _ => show (n + 1) / 1 % 5 = 0; omega
 | 3, _ =>
  have hx : n / 25 % 5 < 4 := hx
  have g4 : n / 5 % 5 = 4 := h4 4 (by omega) (by omega)
  have g5 : n / 1 % 5 = 4 := h4 5 (by omega) (by omega)
  have g : n % 25 = 24 := by clear hx; omega
  clear g4 g5
  clear h4
  match k, hk with
  | 0, _ => show (n + 1) / 3125 % 5 = n / 3125 % 5; omega
  | 1, _ => show (n + 1) / 625 % 5 = n / 625 % 5; omega
  | 2, _ => show (n + 1) / 125 % 5 = n / 125 % 5; omega
  | 3, _ => show (n + 1) / 25 % 5 = n / 25 % 5 + 1; omega
  | 4, _ => show (n + 1) / 5 % 5 = 0; omega
  | 5, _ => show (n + 1) / 1 % 5 = 0; omega
 | 4, _ =>
  have hx : n / 5 % 5 < 4 := hx
  have g5 : n / 1 % 5 = 4 := h4 5 (by omega) (by omega)
  have g : n % 5 = 4 := by clear hx; omega
  clear g5
  clear h4
  match k, hk with
  | 0, _ => show (n + 1) / 3125 % 5 = n / 3125 % 5; omega
  | 1, _ => show (n + 1) / 625 % 5 = n / 625 % 5; omega
  | 2, _ => show (n + 1) / 125 % 5 = n / 125 % 5; omega
  | 3, _ => show (n + 1) / 25 % 5 = n / 25 % 5; omega
  | 4, _ => show (n + 1) / 5 % 5 = n / 5 % 5 + 1; omega
  | 5, _ => show (n + 1) / 1 % 5 = 0; omega
 | 5, _ =>
  have hx : n / 1 % 5 < 4 := hx
  have g : n % 1 = 0 := by clear hx; omega
  clear h4
  match k, hk with
  | 0, _ => show (n + 1) / 3125 % 5 = n / 3125 % 5; omega
  | 1, _ => show (n + 1) / 625 % 5 = n / 625 % 5; omega
  | 2, _ => show (n + 1) / 125 % 5 = n / 125 % 5; omega
  | 3, _ => show (n + 1) / 25 % 5 = n / 25 % 5; omega
  | 4, _ => show (n + 1) / 5 % 5 = n / 5 % 5; omega
  | 5, _ => show (n + 1) / 1 % 5 = n / 1 % 5 + 1; omega
theorem odo_next (hj : j < 6) (h4 : ∀ k, j + 1 ≤ k → k < 6 → (sgOf n).get k = 4) (hx : (sgOf n).get j < 4) : (odo n (j + 1)).put j ((sgOf n).get j + 1) = sgOf (n + 1) := by
 have h := inc_at n j
 refine sg_ext fun k hk => ?_
 have h := inc_at n j k hj hk (fun q h1 h2 => by have := h4 q h1 h2; rw [sgOf_get q h2] at this; omega) (by rw [sgOf_get j hj] at hx; omega)
 rw [Sg.put, sg_of_get hk, sgOf_get k hk, h, odo, sg_of_get hk, sgOf_get j hj, sgOf_get k hk]
 by_cases e : k = j
 ·rw [if_pos e, if_pos e]; omega
 rw [if_neg e, if_neg e]
 by_cases g : j + 1 ≤ k
 ·rw [if_pos g, if_pos g]; rfl
 rw [if_neg g, if_neg g]
theorem odo_last (hn : n < 15625) (h4 : ∀ k, k < 6 → (sgOf n).get k = 4) : n = 15624 := by
 have a0 : (sgOf n).get 0 = ((n / 3125 % 5 : Nat) : Int) := rfl
 have a1 : (sgOf n).get 1 = ((n / 625 % 5 : Nat) : Int) := rfl
 have a2 : (sgOf n).get 2 = ((n / 125 % 5 : Nat) : Int) := rfl
 have a3 : (sgOf n).get 3 = ((n / 25 % 5 : Nat) : Int) := rfl
 have a4 : (sgOf n).get 4 = ((n / 5 % 5 : Nat) : Int) := rfl
 have a5 : (sgOf n).get 5 = ((n % 5 : Nat) : Int) := rfl
 have g0 := h4 0 (by omega); have g1 := h4 1 (by omega); have g2 := h4 2 (by omega); have g3 := h4 3 (by omega); have g4 := h4 4 (by omega); have g5 := h4 5 (by omega)
 omega
theorem odo_lt (hn : n < 15625) (hj : j < 6) (hx : (sgOf n).get j < 4) : n + 1 < 15625 := by
 rcases Nat.lt_or_ge (n + 1) 15625 with g | g
 ·exact g
 obtain rfl : n = 15624 := by omega
 match j, hj with
 | 0, _ | 1, _ | 2, _ | 3, _ | 4, _ | 5, _ => exact absurd hx (by decide)
theorem alike_self (h : Clr s) : (alike b s s).isSome = true := by
 have hc : ∀ q, q < 6 → (commonAt b s s q).isSome = true := fun q hq => by
  unfold commonAt common
  rw [List.find?_isSome]
  have := h.at hq
  refine ⟨s.get q, ?_, by rw [may_self rfl]; rfl⟩
  have : s.get q = 0 ∨ s.get q = 1 ∨ s.get q = 2 ∨ s.get q = 3 ∨ s.get q = 4 := by omega
  simpa using this
 rw [alike_yes hc]; rfl
theorem free_held (hs : Clr s) (h : ∃ m ∈ force b day, m.s = s) : freeB b day s = false := by
 obtain ⟨m, hm, rfl⟩ := h
 unfold freeB
 rw [List.all_eq_false]
 refine ⟨m, hm, ?_⟩
 have := alike_self (b := b) hs
 cases e : alike b m.s m.s <;> simp_all
theorem freeN_some (hn : n < 15625) (h : freeB b day (sgOf n) = true) (hno : ∀ q, q < n → freeB b day (sgOf q) = false) : freeN b day = some n := by
 unfold freeN
 rw [List.find?_range_eq_some]
 exact ⟨h, List.mem_range.2 hn, fun q hq => by simp [hno q hq]⟩
theorem freeN_none (hno : ∀ q, q < 15625 → freeB b day (sgOf q) = false) : freeN b day = none := by
 unfold freeN
 rw [List.find?_range_eq_none]
 intro q hq; simp [hno q hq]
end
end Go.Vk.Mark

namespace Go.Vk.Mark
open Go Go.Vk
def exM : List Mk := [⟨1, 0, 100, ⟨1, 0, 1, 0, 0, 0⟩⟩, ⟨2, 0, 100, ⟨1, 0, 2, 0, 0, 0⟩⟩, ⟨3, 10, 100, ⟨0, 2, 1, 1, 0, 0⟩⟩]
def exF : List Fde := [⟨1, 0⟩, ⟨2, 0⟩]
def exB : Sm := ⟨exM, exF⟩
def exS : Sg := ⟨1, 0, 0, 0, 0, 0⟩
def exT : Sg := ⟨1, 0, 1, 0, 0, 0⟩
def exG : List Sg := [exS, exS, exT]
def splitW (l : List UInt8) : List (List UInt8) := (Lib.splitB (bs [32]) 0 (Lib.countB (bs l) (bs [32])) (bs l)).map fun b => b.data.toList
theorem split_eq (l : List UInt8) : splitW l = Lib.split l [32] := Lib.splitB_data _ _ _ _
def exL1 : List UInt8 := [99, 114, 111, 112, 112, 101, 100, 32, 112, 108, 97, 105, 110, 32, 98, 97, 114, 101, 32, 98, 97, 114, 101, 32, 98, 97, 114, 101, 32, 98, 97, 114, 101]
def exL2 : List UInt8 := [99, 114, 111, 112, 112, 101, 100, 32, 112, 108, 97, 105, 110, 32, 114, 101, 100, 32, 98, 97, 114, 101, 32, 98, 97, 114, 101, 32, 98, 97, 114, 101]
theorem ex_line1 : seenW (splitW exL1) = some exS := by rw [split_eq]; decide +kernel
theorem ex_line2 : seenW (splitW exL2) = some exT := by rw [split_eq]; decide +kernel
theorem ex_open0 : openE exB 0 true = 0 := by decide +kernel
theorem ex_open10 : openE exB 10 true = 0 := by decide +kernel
theorem ex_own1 : ownersOf exB 0 exS = [1, 2] := by decide +kernel
theorem ex_mis : mistaken exB 10 = [(1, 2)] := by decide +kernel
theorem ex_free : freeN exB 0 = some 0 := freeN_some (n := 0) (by decide) (by decide +kernel) (fun q h => absurd h (Nat.not_lt_zero q))
theorem ex_sure : sureN exB 0 exG 1 = 1 := by decide +kernel
theorem ex_perhaps : perhapsN exB 0 exG 1 = 2 := by decide +kernel
def exC1 : List Clm := [⟨1, 1⟩, ⟨2, 2⟩]
def exC2 : List Clm := [⟨1, 2⟩, ⟨2, 2⟩]
def exC3 : List Clm := [⟨1, 2⟩, ⟨2, 1⟩]
theorem ex_ms {c : List Clm} (h : c = exC1 ∨ c = exC2 ∨ c = exC3) : mks exB 0 exG c = [3, 3, 1] := by rcases h with rfl | rfl | rfl <;> decide +kernel
theorem ex_can1 : canB exC1 (cnz exB 0 exG exC1) = true := by unfold cnz; rw [ex_ms (.inl rfl)]; decide +kernel
theorem ex_asg : asg (mks exB 0 exG exC1) exC1 (cnz exB 0 exG exC1) = [2, 2, 1] := by unfold cnz; rw [ex_ms (.inl rfl)]; decide +kernel
theorem ex_best : bestS exC2 (shP exC2 (cnz exB 0 exG exC2) (2 ^ exC2.length)) = some [1, 2] := by unfold cnz; rw [ex_ms (.inr (.inl rfl))]; decide +kernel
theorem ex_can3 : canB exC3 (cnz exB 0 exG exC3) = true := by unfold cnz; rw [ex_ms (.inr (.inr rfl))]; decide +kernel
theorem ex_cert : cert (mks exB 0 exG exC3) exC3 (cnz exB 0 exG exC3) = [0, 0, 1] := by unfold cnz; rw [ex_ms (.inr (.inr rfl))]; decide +kernel
theorem ex_sorted {cz cs : List Clm} (hp : cz.Perm cs) (h1 : cz.Pairwise fun x y => x.owner ≤ y.owner) (h2 : cs.Pairwise fun x y => x.owner < y.owner) : cz = cs := by
 induction cs generalizing cz with
 | nil => exact hp.eq_nil
 | cons c cs ih =>
  cases cz with
  | nil => exact absurd hp.symm.eq_nil (by simp)
  | cons a cz =>
   have ha : a ∈ c :: cs := hp.mem_iff.1 (.head _)
   have hc : c ∈ a :: cz := hp.mem_iff.2 (.head _)
   rw [List.pairwise_cons] at h1 h2
   have e : a = c := by
    rcases List.mem_cons.1 ha with rfl | g
    ·rfl
    rcases List.mem_cons.1 hc with rfl | g2
    ·rfl
    have := h2.1 a g; have := h1.1 c g2; omega
   subst e
   rw [ih (List.Perm.cons_inv hp) h1.2 h2.2]
theorem le_Clm {cz : List Clm} (h : SortedL (fun x y : Clm => Go.Vk.Deed.cmpI x.owner y.owner) cz) : cz.Pairwise fun x y => x.owner ≤ y.owner := h.imp fun h => by rw [lt_Clm] at h; simpa using h
theorem ex_cz1 {cz : List Clm} (hp : cz.Perm exC1) (hs : SortedL (fun x y : Clm => Go.Vk.Deed.cmpI x.owner y.owner) cz) : cz = exC1 := ex_sorted hp (le_Clm hs) (by decide)
theorem ex_cz2 {cz : List Clm} (hp : cz.Perm exC2) (hs : SortedL (fun x y : Clm => Go.Vk.Deed.cmpI x.owner y.owner) cz) : cz = exC2 := ex_sorted hp (le_Clm hs) (by decide)
theorem ex_cz3 {cz : List Clm} (hp : cz.Perm exC3) (hs : SortedL (fun x y : Clm => Go.Vk.Deed.cmpI x.owner y.owner) cz) : cz = exC3 := ex_sorted hp (le_Clm hs) (by decide)
theorem ex_asg9 {cz : List Clm} (h : cz = exC1) : asg (mks exB 0 exG cz) cz (cnz exB 0 exG cz) = [2, 2, 1] := by rw [h]; exact ex_asg
theorem ex_best9 {cz : List Clm} (h : cz = exC2) : bestS cz (shP cz (cnz exB 0 exG cz) (2 ^ cz.length)) = some [1, 2] := by rw [h]; exact ex_best
theorem ex_best8 {cz : List Clm} (h : cz = exC2) : (bestS cz (shP cz (cnz exB 0 exG cz) (2 ^ cz.length))).isSome = true := by rw [ex_best9 h]; rfl
theorem ex_best7 {cz : List Clm} (h : cz = exC2) : (bestS cz (shP cz (cnz exB 0 exG cz) (2 ^ cz.length))).getD [] = [1, 2] := by rw [ex_best9 h]; rfl
theorem ex_cert9 {cz : List Clm} (h : cz = exC3) : cert (mks exB 0 exG cz) cz (cnz exB 0 exG cz) = [0, 0, 1] := by rw [h]; exact ex_cert
theorem ex_can91 {cz : List Clm} (h : cz = exC1) : canB cz (cnz exB 0 exG cz) = true := by rw [h]; exact ex_can1
theorem ex_can93 {cz : List Clm} (h : cz = exC3) : canB cz (cnz exB 0 exG cz) = true := by rw [h]; exact ex_can3
theorem ex_begin1 : beginE exB 0 true exG exC1 = 0 := by decide +kernel
theorem ex_begin2 : beginE exB 0 true exG exC2 = 0 := by decide +kernel
theorem ex_begin3 : beginE exB 0 true exG exC3 = 0 := by decide +kernel
theorem ex_pok : ∀ x ∈ ([(1, 2)] : List Pr), B64 x.1 ∧ B64 x.2 := fun x h => by
 simp only [List.mem_cons, List.not_mem_nil, or_false] at h
 subst h; unfold B64; decide
theorem ex_f0ok : SgOk (sgOf 0) := sgOf_clr.ok
theorem ex_sok : SgOk exS := by constructor <;> (unfold B8; decide)
theorem ex_tok : SgOk exT := by constructor <;> (unfold B8; decide)
theorem ex_zok : SgOk zeroSg := by constructor <;> (unfold B8; decide)
theorem ex_gok : ∀ t ∈ exG, SgOk t := fun t h => by
 simp only [exG, List.mem_cons, List.not_mem_nil, or_false] at h
 rcases h with rfl | rfl | rfl
 ·exact ex_sok
 ·exact ex_sok
 exact ex_tok
theorem ex_mok : ∀ m ∈ exB.marks, MkOk m := fun m h => by
 simp only [exB, exM, List.mem_cons, List.not_mem_nil, or_false] at h
 rcases h with rfl | rfl | rfl <;> exact ⟨by unfold B64; decide, by unfold B64; decide, by unfold B64; decide, by constructor <;> (unfold B8; decide)⟩
theorem ex_fok : ∀ m ∈ exB.fades, FdOk m := fun m h => by
 simp only [exB, exF, List.mem_cons, List.not_mem_nil, or_false] at h
 rcases h with rfl | rfl <;> exact ⟨by unfold B8; decide, by unfold B8; decide⟩
theorem ex_smr {TM TF : TypeId} {w : World} {vm vf : Value} (h1 : Rd (mkE TM) w vm exM) (h2 : Rd (fdE TF) w vf exF) : SmR TM TF w vm vf exB := ⟨h1, h2, ex_mok, ex_fok, by decide, by decide⟩
end Go.Vk.Mark

namespace Go.Vk
open Go Go.ChangeShapes Go.WideShapes Go.RowKit
section
variable {H : Type} {enc : TypeId × Value → H}
end
namespace Mark
theorem b8_of {z : Int} (h : (Lit.int .u8 z).wf = true) : B8 z := by
 simp [Lit.wf, IntKind.min, IntKind.max, IntKind.bits, IntKind.signed] at h
 unfold B8; omega
theorem b64_of {z : Int} (h : (Lit.int .i64 z).wf = true) : B64 z := by
 simp [Lit.wf, IntKind.min, IntKind.max, IntKind.bits, IntKind.signed] at h
 unfold B64; omega
end Mark
end Go.Vk

namespace Go.Vk.Mark
open Go Go.Vk
def splitL : List UInt8 → List (List UInt8)
 | [] => [[]]
 | c :: r => if c = 32 then [] :: splitL r else match splitL r with
  | [] => [[c]]
  | h :: t => (c :: h) :: t
section
variable {l x r : List UInt8} {xs : List (List UInt8)} {c : UInt8} {i : Nat}
theorem splitL_ne : ∀ l : List UInt8, splitL l ≠ []
 | [] => by simp [splitL]
 | c :: r => by
  rw [splitL]
  split
  ·simp
  split <;> simp
theorem index_one (c : UInt8) (l : List UInt8) : Lib.index (c :: l) [32] = if c = 32 then 0 else if Lib.index l [32] = -1 then -1 else Lib.index l [32] + 1 := by
 rw [Lib.index]
 have : ([32] : List UInt8).isPrefixOf (c :: l) = decide (c = 32) := by
  by_cases h : c = 32
  ·subst h; rfl
  rw [decide_eq_false h]; simp [List.isPrefixOf]; exact fun e => h e.symm
 rw [this]
 simp only [decide_eq_true_eq, beq_iff_eq]
theorem splitK_L : ∀ l : List UInt8, Lib.splitK [32] 0 (Lib.count l [32]) l = splitL l
 | [] => rfl
 | c :: l => by
  have ih := splitK_L l
  have hge := Lib.index_ge l [32]
  by_cases h : c = 32
  ·subst h
   rw [Lib.count_cons_eq, Nat.add_comm, Lib.splitK, index_one, if_pos rfl, if_neg (by decide), splitL, if_pos rfl]
   show List.take 0 _ :: Lib.splitK [32] 0 _ l = _
   rw [ih]; rfl
  rw [Lib.count_cons_ne c 32 l h, splitL, if_neg h]
  cases hk : Lib.count l [32] with
  | zero =>
   rw [hk] at ih
   rw [← ih]; rfl
  | succ k =>
   rw [hk] at ih
   rw [Lib.splitK] at ih ⊢
   rw [index_one, if_neg h]
   by_cases hi : Lib.index l [32] = -1
   ·rw [if_pos (by rw [hi]; rfl)] at ih
    rw [if_pos hi, if_pos (by decide), ← ih]
   rw [if_neg (by simpa using hi)] at ih
   rw [if_neg hi, if_neg (by simp; omega), ← ih]
   obtain ⟨n, hn⟩ : ∃ n : Nat, Lib.index l [32] = n := ⟨(Lib.index l [32]).toNat, by omega⟩
   rw [hn]
   have e1 : ((n : Int) + 1).toNat = n + 1 := by omega
   rw [e1, Int.toNat_natCast]
   simp only [Nat.add_zero, List.take_succ_cons, List.length_singleton, List.drop_succ_cons]
theorem split_L (l : List UInt8) : splitW l = splitL l := by rw [split_eq]; exact splitK_L l
theorem split_cut : ∀ (x r : List UInt8), (∀ c ∈ x, c ≠ 32) → splitL (x ++ 32 :: r) = x :: splitL r
 | [], r, _ => by rw [List.nil_append, splitL, if_pos rfl]
 | c :: x, r, h => by
  rw [List.cons_append, splitL, if_neg (h c List.mem_cons_self), split_cut x r fun d hd => h d (List.mem_cons_of_mem _ hd)]
theorem split_last : ∀ (x : List UInt8), (∀ c ∈ x, c ≠ 32) → splitL x = [x]
 | [], _ => rfl
 | c :: x, h => by rw [splitL, if_neg (h c List.mem_cons_self), split_last x fun d hd => h d (List.mem_cons_of_mem _ hd)]
theorem tail_cons (y : List UInt8) (ys : List (List UInt8)) : Lib.joinTail [32] (y :: ys) = 32 :: y ++ Lib.joinTail [32] ys := rfl
theorem split_join : ∀ (xs : List (List UInt8)) (x : List UInt8), (∀ y ∈ x :: xs, ∀ c ∈ y, c ≠ 32) → splitL (Lib.join (x :: xs) [32]) = x :: xs
 | [], x, h => by rw [Lib.join_one]; exact split_last x (h x List.mem_cons_self)
 | y :: ys, x, h => by
  have ih := split_join ys y fun z hz => h z (List.mem_cons_of_mem _ hz)
  rw [Lib.join_cons, tail_cons]
  rw [Lib.join_cons] at ih
  rw [show x ++ (32 :: y ++ Lib.joinTail [32] ys) = x ++ 32 :: (y ++ Lib.joinTail [32] ys) by simp, split_cut x _ (h x List.mem_cons_self), ih]
theorem join_split : ∀ l : List UInt8, Lib.join (splitL l) [32] = l
 | [] => rfl
 | c :: l => by
  have ih := join_split l
  rw [splitL]
  cases e : splitL l with
  | nil => exact absurd e (splitL_ne l)
  | cons h t =>
   rw [e, Lib.join_cons] at ih
   split
   ·rename_i hc
    rw [Lib.join_cons, tail_cons, hc]
    show [] ++ (32 :: h ++ Lib.joinTail [32] t) = _
    rw [List.nil_append, List.cons_append, ih]
   show Lib.join ((c :: h) :: t) [32] = _
   rw [Lib.join_cons, List.cons_append, ih]
end
structure WordI (l : List UInt8) (i fr : Nat) (out : List (List UInt8)) : Prop where
 le : fr ≤ i
 len : i ≤ l.length
 no : ∀ c ∈ (l.take i).drop fr, c ≠ 32
 eq : out ++ splitL (l.drop fr) = splitL l
 ol : out.length ≤ fr
section
variable {l : List UInt8} {i fr : Nat} {out : List (List UInt8)} {c : UInt8}
theorem WordI.start : WordI l 0 0 [] := ⟨Nat.le_refl _, Nat.zero_le _, fun c h => by simp at h, rfl, Nat.le_refl _⟩
theorem drop_at9 (h : WordI l i fr out) (hc : l[i]? = some c) : l.drop fr = (l.take i).drop fr ++ c :: l.drop (i + 1) := by
 obtain ⟨hi, rfl⟩ := List.getElem?_eq_some_iff.1 hc
 conv => lhs; rw [← List.take_append_drop i l]
 rw [List.drop_append, List.length_take, show fr - min i l.length = 0 by have := h.le; omega, List.drop_zero, List.drop_eq_getElem_cons hi]
theorem WordI.cut (h : WordI l i fr out) (hc : l[i]? = some 32) : WordI l (i + 1) (i + 1) (out ++ [(l.take i).drop fr]) := by
 have hi := (List.getElem?_eq_some_iff.1 hc).1
 refine ⟨Nat.le_refl _, hi, fun c hm => ?_, ?_, ?_⟩
 ·rw [List.drop_eq_nil_of_le (by rw [List.length_take]; omega)] at hm; cases hm
 ·rw [← h.eq, drop_at9 h hc, split_cut _ _ h.no, List.append_assoc]; rfl
 have := h.ol; have := h.le; rw [List.length_append]; simp only [List.length_singleton]; omega
theorem WordI.stay (h : WordI l i fr out) (hc : l[i]? = some c) (hn : c ≠ 32) : WordI l (i + 1) fr out := by
 have hi := (List.getElem?_eq_some_iff.1 hc).1
 refine ⟨by have := h.le; omega, hi, fun d hm => ?_, h.eq, h.ol⟩
 rw [List.take_add_one, hc, List.drop_append, List.length_take] at hm
 rcases List.mem_append.1 hm with hm | hm
 ·exact h.no d hm
 have := List.mem_of_mem_drop hm
 simp at this; rw [this]; exact hn
theorem WordI.done (h : WordI l l.length fr out) : out ++ [l.drop fr] = splitW l := by
 rw [split_L, ← h.eq]
 have hn := h.no
 rw [List.take_length] at hn
 rw [split_last _ hn]
end
end Go.Vk.Mark

namespace Go.Vk.Mark
open Go Go.Vk
open Go.Vk.Deed (rng rng_iff)
def wordAt (p : Nat) (g : Int) : List UInt8 := if g = 9 then wornW else ((wordsW p)[g.toNat]?).getD []
def toldL (s : Sg) : List (List UInt8) := (List.range 6).map fun p => wordAt p (s.get p)
def toldW (s : Sg) : List UInt8 := Lib.join (toldL s) [32]
def writeL (m : Mk) : List (List UInt8) := [Lib.itoa m.owner, Lib.itoa m.frm, Lib.itoa m.til] ++ toldL m.s
def writeW (m : Mk) : List UInt8 := Lib.join (writeL m) [32]
def numW (s : List UInt8) : Option Int := match Lib.atoiAll s with
 | .ok n => if Lib.itoa n = s then some n else none
 | _ => none
def readC (l : List (List UInt8)) : Option Mk := match numW (l.getD 0 []), numW (l.getD 1 []), numW (l.getD 2 []), seenW (l.drop 3) with
 | some a, some b, some c, some s => some ⟨a, b, c, s⟩
 | _, _, _, _ => none
def readW (line : List UInt8) : Option Mk := if (splitW line).length = 9 then (readC (splitW line)).filter markB else none
def digB (c : UInt8) : Bool := decide (48 ≤ c.toNat ∧ c.toNat ≤ 57)
def valN (s : List UInt8) : Int := s.foldl (fun n c => 10 * n + (c.toNat : Int) - 48) 0
def valS (s : List UInt8) : Int := if s.length < 1 ∨ 9 < s.length then -1 else if s.all digB = true then valN s else -1
def sgnR (p : Nat) (s : List UInt8) : Int := (sgnW (wordsW p) s).getD 8
def seenR (l : List (List UInt8)) (d : Nat) : Sg := Sg.of fun p => sgnR p (l.getD (d + p) [])
def markR (l : List (List UInt8)) : Mk := ⟨valS (l.getD 0 []), valS (l.getD 1 []), valS (l.getD 2 []), seenR l 3⟩
section
variable {p : Nat} {g n : Int} {w s line : List UInt8} {l : List (List UInt8)} {t : Sg} {m : Mk}
theorem toldL_len : (toldL t).length = 6 := by simp [toldL]
theorem told_at (h : p < 6) : (toldL t)[p]? = some (wordAt p (t.get p)) := by simp [toldL, h]
theorem sgn_word (h : 0 ≤ g) (h2 : g ≤ 4 ∨ g = 9) : sgnW (wordsW p) (wordAt p g) = some g := by
 have hg : g = 0 ∨ g = 1 ∨ g = 2 ∨ g = 3 ∨ g = 4 ∨ g = 9 := by omega
 unfold wordAt wordsW
 by_cases hp : p < 2
 ·rw [if_pos hp]; rcases hg with rfl | rfl | rfl | rfl | rfl | rfl <;> decide
 rw [if_neg hp]; rcases hg with rfl | rfl | rfl | rfl | rfl | rfl <;> decide
theorem idx_hit {ws : List (List UInt8)} (h : 0 ≤ Go.Vk.Flow.idx (fun x => decide (w = x)) ws) : ws[(Go.Vk.Flow.idx (fun x => decide (w = x)) ws).toNat]? = some w := by
 unfold Go.Vk.Flow.idx at h ⊢
 cases e : ws.findIdx? (fun x => decide (w = x)) with
 | none => rw [e] at h; simp at h
 | some q =>
  simp only [Int.toNat_natCast]
  obtain ⟨hq, h1, _⟩ := List.findIdx?_eq_some_iff_getElem.1 e
  rw [List.getElem?_eq_getElem hq]
  have := of_decide_eq_true h1
  rw [← this]
theorem word_sgn (h : sgnW (wordsW p) w = some g) : wordAt p g = w ∧ 0 ≤ g ∧ (g ≤ 4 ∨ g = 9) := by
 unfold sgnW at h
 split at h
 ·rename_i e
  cases h
  exact ⟨by unfold wordAt; rw [if_pos rfl, e], by decide, .inr rfl⟩
 split at h
 ·cases h
 rename_i h1 h2
 have h3 := idx_lt5 (s := w) (words_len p)
 have h4 := idx_hit (w := w) (ws := wordsW p) (by omega)
 cases h
 refine ⟨?_, by omega, .inl h3⟩
 unfold wordAt
 rw [if_neg (by omega), h4]; rfl
theorem sight_at (h : SgOk t) (hs : sightB t = true) (hp : p < 6) : 0 ≤ t.get p ∧ (t.get p ≤ 4 ∨ t.get p = 9) := by
 unfold sightB Sg.l at hs
 simp only [List.all_cons, List.all_nil, Bool.and_true, Bool.and_eq_true, decide_eq_true_eq] at hs
 have h1 := h.h0; have h2 := h.h1; have h3 := h.h2; have h4 := h.h3; have h5 := h.h4; have h6 := h.h5
 unfold B8 at h1 h2 h3 h4 h5 h6
 have : p = 0 ∨ p = 1 ∨ p = 2 ∨ p = 3 ∨ p = 4 ∨ p = 5 := by omega
 rcases this with rfl | rfl | rfl | rfl | rfl | rfl
 ·show 0 ≤ t.a0 ∧ (t.a0 ≤ 4 ∨ t.a0 = 9); omega
 ·show 0 ≤ t.a1 ∧ (t.a1 ≤ 4 ∨ t.a1 = 9); omega
 ·show 0 ≤ t.a2 ∧ (t.a2 ≤ 4 ∨ t.a2 = 9); omega
 ·show 0 ≤ t.a3 ∧ (t.a3 ≤ 4 ∨ t.a3 = 9); omega
 ·show 0 ≤ t.a4 ∧ (t.a4 ≤ 4 ∨ t.a4 = 9); omega
 show 0 ≤ t.a5 ∧ (t.a5 ≤ 4 ∨ t.a5 = 9); omega
theorem at_sight (h : ∀ p, p < 6 → 0 ≤ t.get p ∧ (t.get p ≤ 4 ∨ t.get p = 9)) : SgOk t ∧ sightB t = true := by
 have h0 := h 0 (by decide); have h1 := h 1 (by decide); have h2 := h 2 (by decide); have h3 := h 3 (by decide); have h4 := h 4 (by decide); have h5 := h 5 (by decide)
 change 0 ≤ t.a0 ∧ (t.a0 ≤ 4 ∨ t.a0 = 9) at h0
 change 0 ≤ t.a1 ∧ (t.a1 ≤ 4 ∨ t.a1 = 9) at h1
 change 0 ≤ t.a2 ∧ (t.a2 ≤ 4 ∨ t.a2 = 9) at h2
 change 0 ≤ t.a3 ∧ (t.a3 ≤ 4 ∨ t.a3 = 9) at h3
 change 0 ≤ t.a4 ∧ (t.a4 ≤ 4 ∨ t.a4 = 9) at h4
 change 0 ≤ t.a5 ∧ (t.a5 ≤ 4 ∨ t.a5 = 9) at h5
 refine ⟨⟨?_, ?_, ?_, ?_, ?_, ?_⟩, ?_⟩
 ·unfold B8; omega
 ·unfold B8; omega
 ·unfold B8; omega
 ·unfold B8; omega
 ·unfold B8; omega
 ·unfold B8; omega
 unfold sightB Sg.l
 simp only [List.all_cons, List.all_nil, Bool.and_true, Bool.and_eq_true, decide_eq_true_eq]
 exact ⟨h0.2, h1.2, h2.2, h3.2, h4.2, h5.2⟩
theorem sg_at_told (h : SgOk t) (hs : sightB t = true) (hp : p < 6) : sgAt (toldL t) p = some (t.get p) := by
 obtain ⟨h1, h2⟩ := sight_at h hs hp
 unfold sgAt
 rw [told_at hp]
 exact sgn_word h1 h2
theorem seen_told (h : SgOk t) (hs : sightB t = true) : seenW (toldL t) = some t := by
 rw [seen_yes toldL_len fun q hq => by rw [sg_at_told h hs hq]; rfl]
 congr 1
 refine sg_ext fun i hi => ?_
 unfold seenP
 rw [sg_of_get hi, if_pos hi, sg_at_told h hs hi]; rfl
theorem told_seen (h : seenW l = some t) : toldL t = l ∧ SgOk t ∧ sightB t = true := by
 unfold seenW at h
 split at h
 ·rename_i hl
  have ht : t = Sg.of fun p => (sgAt l p).getD 0 := (Option.some.inj h).symm
  have key : ∀ p, p < 6 → ∃ w g, l[p]? = some w ∧ sgnW (wordsW p) w = some g ∧ t.get p = g := fun p hp => by
   have h1 := List.all_eq_true.1 hl.2 p (List.mem_range.2 hp)
   have h2 : t.get p = (sgAt l p).getD 0 := by rw [ht, sg_of_get hp]
   unfold sgAt at h1 h2
   cases e : l[p]? with
   | none => rw [e] at h1; cases h1
   | some w =>
    rw [e] at h1 h2
    cases e2 : sgnW (wordsW p) w with
    | none => simp only at h1; rw [e2] at h1; cases h1
    | some g => simp only at h2; rw [e2] at h2; exact ⟨w, g, rfl, e2, h2⟩
  obtain ⟨h3, h4⟩ := at_sight (t := t) fun p hp => by
   obtain ⟨w, g, _, h2, h3⟩ := key p hp
   rw [h3]; exact (word_sgn h2).2
  refine ⟨List.ext_getElem? fun p => ?_, h3, h4⟩
  by_cases hp : p < 6
  ·obtain ⟨w, g, h1, h2, h3⟩ := key p hp
   rw [told_at hp, h1, h3, (word_sgn h2).1]
  rw [List.getElem?_eq_none (by rw [toldL_len]; omega), List.getElem?_eq_none (by rw [hl.1]; omega)]
 cases h
theorem dec_digits : ∀ (u : Nat), ∀ c ∈ Lib.decDigits u, digB c = true := by
 intro u
 induction u using Nat.strongRecOn with
 | _ u ih =>
  intro c hc
  have hd : ∀ d, d < 10 → digB (UInt8.ofNat (48 + d)) = true := fun d hd => by
   unfold digB
   rw [UInt8.toNat_ofNat', Nat.mod_eq_of_lt (by omega), decide_eq_true_eq]; omega
  by_cases h : u < 10
  ·rw [Lib.decDigits, dif_pos h, List.mem_singleton] at hc
   rw [hc]; exact hd u h
  rw [Lib.decDigits, dif_neg h] at hc
  rcases List.mem_append.1 hc with hc | hc
  ·exact ih (u / 10) (by omega) c hc
  rw [List.mem_singleton.1 hc]; exact hd _ (Nat.mod_lt _ (by omega))
theorem dig_dec {d : Nat} (h : d < 10) : (UInt8.ofNat (48 + d)).toNat = 48 + d := by rw [UInt8.toNat_ofNat', Nat.mod_eq_of_lt (by omega)]
theorem val_dec : ∀ u : Nat, valN (Lib.decDigits u) = u := by
 intro u
 induction u using Nat.strongRecOn with
 | _ u ih =>
  by_cases h : u < 10
  ·rw [Lib.decDigits, dif_pos h]
   show 10 * (0 : Int) + ((UInt8.ofNat (48 + u)).toNat : Int) - 48 = _
   rw [dig_dec h]; omega
  rw [Lib.decDigits, dif_neg h]
  have := ih (u / 10) (by omega)
  unfold valN at this ⊢
  rw [List.foldl_append, this]
  show 10 * ((u / 10 : Nat) : Int) + ((UInt8.ofNat (48 + u % 10)).toNat : Int) - 48 = _
  rw [dig_dec (Nat.mod_lt _ (by omega))]; omega
theorem parse_step {acc d : Nat} {r : List UInt8} (ha : acc < 1000000000000000000) (hd : d < 10) : Lib.parseUint10 acc (UInt8.ofNat (48 + d) :: r) = Lib.parseUint10 (acc * 10 + d) r := by
 rw [Lib.parseUint10, dig_dec hd, if_pos (by omega), if_neg (by omega), if_neg (by omega)]
 congr 1; omega
theorem parse_dec : ∀ (u : Nat), u < 1000000000000000000 → ∀ r, Lib.parseUint10 0 (Lib.decDigits u ++ r) = Lib.parseUint10 u r := by
 intro u
 induction u using Nat.strongRecOn with
 | _ u ih =>
  intro hu r
  by_cases h : u < 10
  ·rw [Lib.decDigits, dif_pos h, List.singleton_append, parse_step (by omega) h]; congr 1; omega
  rw [Lib.decDigits, dif_neg h, List.append_assoc, ih (u / 10) (by omega) (by omega), List.singleton_append, parse_step (by omega) (Nat.mod_lt _ (by omega))]
  congr 1; omega
theorem dec_ne (u : Nat) : Lib.decDigits u ≠ [] := by
 rw [Lib.decDigits]; split <;> simp
theorem atoi_dec {u : Nat} (hu : u < 1000000000000000000) : Lib.atoiAll (Lib.decDigits u) = .ok (u : Int) := by
 have hp := parse_dec u hu []
 rw [List.append_nil, Lib.parseUint10] at hp
 cases e : Lib.decDigits u with
 | nil => exact absurd e (dec_ne u)
 | cons c r =>
  have hc : digB c = true := dec_digits u c (by rw [e]; exact List.mem_cons_self)
  unfold digB at hc
  rw [decide_eq_true_eq] at hc
  rw [e] at hp
  unfold Lib.atoiAll
  simp only
  rw [if_neg (by omega)]
  unfold Lib.parseMag
  rw [if_neg (by simp), hp]
  simp only
  rw [if_neg (by omega), if_neg (by omega), if_neg (by omega)]
theorem itoa_nn {n : Int} (h : 0 ≤ n) : Lib.itoa n = Lib.decDigits n.toNat := by unfold Lib.itoa; rw [if_neg (by omega)]
theorem num_itoa (h : 0 ≤ n) (h2 : n < 1000000000000000000) : numW (Lib.itoa n) = some n := by
 have e : ((n.toNat : Nat) : Int) = n := by omega
 unfold numW
 rw [itoa_nn h, atoi_dec (by omega)]
 simp only
 rw [e, itoa_nn h, if_pos rfl]
theorem itoa_num (h : numW s = some n) : Lib.itoa n = s := by
 unfold numW at h
 split at h
 ·split at h
  ·cases h; assumption
  cases h
 cases h
theorem val_itoa (h : 0 ≤ n) (h2 : n < 1000000000) : valS (Lib.itoa n) = n := by
 rw [itoa_nn h]
 have hl : (Lib.decDigits n.toNat).length ≤ 9 := by
  rw [Lib.decDigits_length]
  have h3 := Lib.nDigits_pos n.toNat
  refine Nat.not_lt.1 fun h9 => ?_
  have : ∀ k u, k < Lib.nDigits u → 10 ^ k ≤ u ∨ k = 0 := by
   intro k
   induction k with
   | zero => exact fun _ _ => .inr rfl
   | succ k ih =>
    intro u hu
    by_cases hu10 : u < 10
    ·rw [Lib.nDigits_small hu10] at hu; omega
    rw [Lib.nDigits_big hu10] at hu
    rcases ih (u / 10) (by omega) with h | h
    ·left; rw [Nat.pow_succ]; omega
    subst h; left; omega
  rcases this 9 n.toNat h9 with h | h
  ·have : (10 : Nat) ^ 9 = 1000000000 := by decide
   omega
  cases h
 have hp := List.length_pos_iff.2 (dec_ne n.toNat)
 unfold valS
 rw [if_neg (by omega), if_pos (List.all_eq_true.2 (dec_digits _)), val_dec]; omega
theorem dig_no {c : UInt8} (h : digB c = true) : c ≠ 32 := by
 rintro rfl; revert h; decide
theorem itoa_no (h : 0 ≤ n) : ∀ c ∈ Lib.itoa n, c ≠ 32 := fun c hc => by
 rw [itoa_nn h] at hc; exact dig_no (dec_digits _ c hc)
theorem word_no (h : 0 ≤ g) (h2 : g ≤ 4 ∨ g = 9) : ∀ c ∈ wordAt p g, c ≠ 32 := by
 have hg : g = 0 ∨ g = 1 ∨ g = 2 ∨ g = 3 ∨ g = 4 ∨ g = 9 := by omega
 unfold wordAt wordsW
 by_cases hp : p < 2
 ·rw [if_pos hp]; rcases hg with rfl | rfl | rfl | rfl | rfl | rfl <;> decide
 rw [if_neg hp]; rcases hg with rfl | rfl | rfl | rfl | rfl | rfl <;> decide
theorem told_no (h : SgOk t) (hs : sightB t = true) : ∀ y ∈ toldL t, ∀ c ∈ y, c ≠ 32 := by
 intro y hy
 obtain ⟨p, hp⟩ := List.getElem?_of_mem hy
 have hp6 : p < 6 := by have := (List.getElem?_eq_some_iff.1 hp).1; rwa [toldL_len] at this
 rw [told_at hp6] at hp
 cases hp
 obtain ⟨h1, h2⟩ := sight_at h hs hp6
 exact word_no h1 h2
theorem clear_sight (h : clearB t = true) : sightB t = true := by
 unfold clearB Sg.l at h
 unfold sightB Sg.l
 simp only [List.all_cons, List.all_nil, Bool.and_true, Bool.and_eq_true, decide_eq_true_eq] at h ⊢
 exact ⟨.inl h.1, .inl h.2.1, .inl h.2.2.1, .inl h.2.2.2.1, .inl h.2.2.2.2.1, .inl h.2.2.2.2.2⟩
theorem mark_parts (h : markB m = true) : (1 ≤ m.owner ∧ m.owner ≤ 40) ∧ (0 ≤ m.frm ∧ m.frm ≤ m.til ∧ m.til ≤ 100000) ∧ clearB m.s = true := by
 unfold markB ownB at h
 rw [Bool.and_eq_true, Bool.and_eq_true, rng_iff, decide_eq_true_eq] at h
 exact ⟨h.1.1, h.1.2, h.2⟩
theorem split_told (h : SgOk t) (hs : sightB t = true) : splitW (toldW t) = toldL t := by
 rw [split_L]
 unfold toldW
 cases e : toldL t with
 | nil => have := toldL_len (t := t); rw [e] at this; cases this
 | cons x xs => exact split_join xs x (by rw [← e]; exact told_no h hs)
theorem split_write (h : SgOk m.s) (hm : markB m = true) : splitW (writeW m) = writeL m := by
 obtain ⟨h1, h2, h3⟩ := mark_parts hm
 rw [split_L]
 unfold writeW writeL
 refine split_join _ _ fun y hy => ?_
 rcases List.mem_append.1 (show y ∈ [Lib.itoa m.owner, Lib.itoa m.frm, Lib.itoa m.til] ++ toldL m.s from hy) with hy | hy
 ·simp only [List.mem_cons, List.not_mem_nil, or_false] at hy
  rcases hy with rfl | rfl | rfl
  ·exact itoa_no (by omega)
  ·exact itoa_no (by omega)
  exact itoa_no (by omega)
 exact told_no h (clear_sight h3) y hy
theorem sgt_iff : seenW (splitW line) = some t ↔ SgOk t ∧ sightB t = true ∧ toldW t = line := by
 constructor
 ·intro h
  obtain ⟨h1, h2, h3⟩ := told_seen h
  exact ⟨h2, h3, by unfold toldW; rw [h1, split_L]; exact join_split line⟩
 rintro ⟨h1, h2, rfl⟩
 rw [split_told h1 h2]; exact seen_told h1 h2
theorem writeL_len : (writeL m).length = 9 := by unfold writeL; rw [List.length_append, toldL_len]; rfl
theorem mark_iff : readW line = some m ↔ SgOk m.s ∧ markB m = true ∧ writeW m = line := by
 constructor
 ·intro h
  unfold readW at h
  split at h
  ·rename_i hl
   obtain ⟨h1, h2⟩ := Option.filter_eq_some_iff.1 h
   unfold readC at h1
   split at h1
   ·rename_i a b c s ha hb hc hs
    cases h1
    obtain ⟨g1, g2, g3⟩ := told_seen hs
    refine ⟨g2, h2, ?_⟩
    have e : writeL ⟨a, b, c, s⟩ = splitW line := by
     show [Lib.itoa a, Lib.itoa b, Lib.itoa c] ++ toldL s = _
     rw [itoa_num ha, itoa_num hb, itoa_num hc, g1]
     have hx : ∀ l : List (List UInt8), l.length = 9 → [l.getD 0 [], l.getD 1 [], l.getD 2 []] ++ l.drop 3 = l := by
      intro l hl
      match l, hl with
      | x :: y :: z :: r, _ => rfl
     exact hx _ hl
    unfold writeW
    rw [e, split_L]; exact join_split line
   cases h1
  cases h
 rintro ⟨h1, h2, rfl⟩
 obtain ⟨g1, g2, g3⟩ := mark_parts h2
 unfold readW
 rw [split_write h1 h2, if_pos writeL_len]
 have e : readC (writeL m) = some m := by
  unfold readC
  rw [show (writeL m).getD 0 [] = Lib.itoa m.owner from rfl, show (writeL m).getD 1 [] = Lib.itoa m.frm from rfl, show (writeL m).getD 2 [] = Lib.itoa m.til from rfl, show (writeL m).drop 3 = toldL m.s from rfl,
   num_itoa (by omega) (by omega), num_itoa (by omega) (by omega), num_itoa (by omega) (by omega), seen_told h1 (clear_sight g3)]
 rw [e]
 exact Option.filter_eq_some_iff.2 ⟨rfl, h2⟩
def rsR (line : List UInt8) : Option Sg := if (splitW line).length = 6 ∧ sightB (seenR (splitW line) 0) = true ∧ toldW (seenR (splitW line) 0) = line then some (seenR (splitW line) 0) else none
def rmR (line : List UInt8) : Option Mk := if (splitW line).length = 9 ∧ markB (markR (splitW line)) = true ∧ writeW (markR (splitW line)) = line then some (markR (splitW line)) else none
theorem sgnR_bd : 0 ≤ sgnR p w ∧ sgnR p w ≤ 9 := by
 unfold sgnR
 cases e : sgnW (wordsW p) w with
 | none => decide
 | some g => have := (word_sgn e).2; show 0 ≤ g ∧ g ≤ 9; omega
theorem seenR_ok (d : Nat) : SgOk (seenR l d) := by
 have h : ∀ p, p < 6 → B8 ((seenR l d).get p) := fun p hp => by
  unfold seenR; rw [sg_of_get hp]; have := sgnR_bd (p := p) (w := l.getD (d + p) []); unfold B8; omega
 exact ⟨h 0 (by decide), h 1 (by decide), h 2 (by decide), h 3 (by decide), h 4 (by decide), h 5 (by decide)⟩
theorem seenR_told {d : Nat} (h : SgOk t) (hs : sightB t = true) (hd : ∀ p, p < 6 → l.getD (d + p) [] = wordAt p (t.get p)) : seenR l d = t := by
 refine sg_ext fun i hi => ?_
 obtain ⟨h1, h2⟩ := sight_at h hs hi
 unfold seenR sgnR
 rw [sg_of_get hi, hd i hi, sgn_word h1 h2]; rfl
theorem rs_eq : rsR line = seenW (splitW line) := by
 unfold rsR
 split
 ·rename_i h
  exact (sgt_iff.2 ⟨seenR_ok 0, h.2.1, h.2.2⟩).symm
 rename_i h
 cases e : seenW (splitW line) with
 | none => rfl
 | some t =>
  obtain ⟨h1, h2, h3⟩ := sgt_iff.1 e
  have hl : splitW line = toldL t := by rw [← h3]; exact split_told h1 h2
  have ht : seenR (splitW line) 0 = t := seenR_told h1 h2 fun p hp => by
   rw [hl, Nat.zero_add, List.getD_eq_getElem?_getD, told_at hp]; rfl
  exact absurd ⟨by rw [hl]; exact toldL_len, by rw [ht]; exact h2, by rw [ht]; exact h3⟩ h
theorem rm_eq : rmR line = readW line := by
 unfold rmR
 split
 ·rename_i h
  exact (mark_iff.2 ⟨seenR_ok 3, h.2.1, h.2.2⟩).symm
 rename_i h
 cases e : readW line with
 | none => rfl
 | some m =>
  obtain ⟨h1, h2, h3⟩ := mark_iff.1 e
  obtain ⟨g1, g2, g3⟩ := mark_parts h2
  have hl : splitW line = writeL m := by rw [← h3]; exact split_write h1 h2
  have hs : seenR (writeL m) 3 = m.s := seenR_told h1 (clear_sight g3) fun p hp => by
   rw [List.getD_eq_getElem?_getD]
   have : (writeL m)[3 + p]? = (toldL m.s)[p]? := by
    unfold writeL
    rw [List.getElem?_append_right (by simp)]
    simp
   rw [this, told_at hp]; rfl
  have ht : markR (splitW line) = m := by
   rw [hl]
   unfold markR
   rw [hs, show (writeL m).getD 0 [] = Lib.itoa m.owner from rfl, show (writeL m).getD 1 [] = Lib.itoa m.frm from rfl, show (writeL m).getD 2 [] = Lib.itoa m.til from rfl, val_itoa (by omega) (by omega), val_itoa (by omega) (by omega), val_itoa (by omega) (by omega)]
  exact absurd ⟨by rw [hl]; exact writeL_len, by rw [ht]; exact h2, by rw [ht]; exact h3⟩ h
end
end Go.Vk.Mark

namespace Go.Vk.Mark
open Go Go.Vk
open Go.Vk.Deed (rng rng_iff owners)
theorem rmark_eq {m : Mk} : (rng m.owner 1 40 && (rng m.frm 0 100000 && (rng m.til m.frm 100000 && clearB m.s))) = markB m := by
 rw [Bool.eq_iff_iff, Bool.and_eq_true, Bool.and_eq_true, Bool.and_eq_true, rng_iff, rng_iff, rng_iff, markB_iff]
 constructor
 ·rintro ⟨h1, h2, h3, h4⟩; exact ⟨h1, ⟨h2.1, h3.1, h3.2⟩, h4⟩
 rintro ⟨h1, h2, h4⟩; exact ⟨h1, ⟨h2.1, by omega⟩, ⟨h2.2.1, h2.2.2⟩, h4⟩
section
variable {α : Type} {l : List α} {p : α → Bool} {c : α → α → Bool} {i k : Nat} {a y : α}
end
theorem clear_bad {s : Sg} {i : Nat} (hi : i < 6) (h : 4 < s.get i) : false = clearB s := (Bool.eq_false_iff.2 fun g => by have := clear_iff.1 g i hi; omega).symm
theorem clear_step {s : Sg} {i : Nat} (h : ∀ q, q < i → s.get q ≤ 4) (hi : s.get i ≤ 4) : ∀ q, q < i + 1 → s.get q ≤ 4 := fun q hq => by
 rcases Nat.lt_or_ge q i with g | g
 ·exact h q g
 rw [show q = i by omega]; exact hi
theorem sight_bad {s : Sg} {i : Nat} (hi : i < 6) (h : 4 < s.get i) (h9 : s.get i ≠ 9) : false = sightB s := (Bool.eq_false_iff.2 fun g => by have := sight_iff.1 g i hi; omega).symm
theorem sight_step {s : Sg} {i : Nat} (h : ∀ q, q < i → s.get q ≤ 4 ∨ s.get q = 9) (hi : s.get i ≤ 4 ∨ s.get i = 9) : ∀ q, q < i + 1 → s.get q ≤ 4 ∨ s.get q = 9 := fun q hq => by
 rcases Nat.lt_or_ge q i with g | g
 ·exact h q g
 rw [show q = i by omega]; exact hi
section
variable {b : Sm} {day o : Int} {m : Mk} {i : Nat} {t : Sg} {x v : Int} {p : Nat}
abbrev fcP (b : Sm) (day : Int) (i : Nat) : List Mk := (owners.take i).filterMap (markOf b day)
abbrev ooP (b : Sm) (day : Int) (t : Sg) (i : Nat) : List Int := (owners.take i).filter (fitsO b day t)
end
end Go.Vk.Mark

namespace Go.Vk.Mark
open Go Go.Vk
section
variable {b : Sm} {day : Int} {found : List Sg} {cs : List Clm} {s i k : Nat} {c : Clm} {f : Int → Bool} {t : Sg}
def anyTo (cs : List Clm) (s : Nat) (f : Int → Bool) (k : Nat) : Bool := (List.range k).any fun j => inSet s j && ((cs[j]?.map fun c => f c.owner).getD false)
def cvP (b : Sm) (day : Int) (found : List Sg) (cs : List Clm) (s i : Nat) : Nat := ((fs b day (found.take i)).filter (anyIn cs s)).length
end
end Go.Vk.Mark

namespace Go.Vk.Mark
open Go Go.Vk
open Go.Vk.Deed (rng rng_iff)
def meetF : List (Int × Nat) → List Clm → Option (List Clm)
 | [], cz => some cz
 | (o, t) :: r, cz => if o = 0 then meetF r cz else if idxO cz o < 0 then none else if t.testBit (idxO cz o).toNat = false then none else meetF r (giveC cz (idxO cz o).toNat 1)
def zeroC (c : Clm) : Bool := decide (c.number = 0)
def meetR : Option (List Clm) → Bool
 | some c => c.all zeroC
 | none => false
def meetsM (os : List Int) (ms : List Nat) (cz : List Clm) : Bool := decide (os.length = ms.length) && meetR (meetF (os.zip ms) cz)
section
variable {os : List Int} {ms : List Nat} {cz cz9 : List Clm} {o : Int} {t i q : Nat} {c : Clm}
end
end Go.Vk.Mark

namespace Go.Vk.Mark
open Go Go.Vk
open Go.Vk.Deed (rng rng_iff)
abbrev Apart9 (cz : List Clm) : Prop := ∀ (i j : Nat) (a c : Clm), cz[i]? = some a → cz[j]? = some c → a.owner = c.owner → i = j
section
variable {cz cz0 cs : List Clm}
theorem nodup_of (h : Apart9 cs) : (cs.map (·.owner)).Nodup := by
 refine List.pairwise_iff_getElem.2 fun i j hi hj hij e => ?_
 rw [List.getElem_map, List.getElem_map] at e
 rw [List.length_map] at hi hj
 have := h i j _ _ (List.getElem?_eq_getElem hi) (List.getElem?_eq_getElem hj) e
 omega
theorem of_nodup (h : (cs.map (·.owner)).Nodup) : Apart9 cs := fun i j a c ha hc e => by
 obtain ⟨hi, rfl⟩ := List.getElem?_eq_some_iff.1 ha
 obtain ⟨hj, rfl⟩ := List.getElem?_eq_some_iff.1 hc
 have h' := List.pairwise_iff_getElem.1 h
 rcases Nat.lt_trichotomy i j with g | g | g
 ·exact absurd (by rw [List.getElem_map, List.getElem_map]; exact e) (h' i j (by simpa using hi) (by simpa using hj) g)
 ·exact g
 exact absurd (by rw [List.getElem_map, List.getElem_map]; exact e.symm) (h' j i (by simpa using hj) (by simpa using hi) g)
def fM (cz0 : List Clm) (m : Nat) : Int → Bool := fun o => m.testBit (idxO cz0 o).toNat
structure Same9 (cz0 cz : List Clm) : Prop where
 hd : Apart9 cz0
 own : cz.map (·.owner) = cz0.map (·.owner)
variable {ms : List Nat} {m t k j : Nat} {c : Clm} {o : Int}
theorem Same9.at (h : Same9 cz0 cz) (hc : cz[k]? = some c) : ∃ c0, cz0[k]? = some c0 ∧ c0.owner = c.owner := by
 have h1 : (cz.map (·.owner))[k]? = some c.owner := by rw [List.getElem?_map, hc]; rfl
 rw [h.own, List.getElem?_map] at h1
 cases e : cz0[k]? with
 | none => rw [e] at h1; cases h1
 | some c0 => rw [e] at h1; exact ⟨c0, rfl, by simpa using h1⟩
theorem Same9.apart (h : Same9 cz0 cz) : Apart9 cz := of_nodup (by rw [h.own]; exact nodup_of h.hd)
theorem give_dec : giveC cz j 1 = decAt cz j := by
 unfold giveC decAt; cases cz[j]? <;> rfl
theorem Same9.give (h : Same9 cz0 cz) (j : Nat) : Same9 cz0 (giveC cz j 1) := ⟨h.hd, by
 rw [← h.own]
 cases hc : cz[j]? with
 | none => unfold giveC; rw [hc]
 | some c => rw [give_claim h.apart hc, less_owners]⟩
theorem Same9.czK (h : Same9 cz0 cz) (k : Nat) : Same9 cz0 (czK cz k) := by
 cases k with
 | zero => exact h
 | succ j => exact h.give j
variable {l : List Nat} {x : List Int}
end
end Go.Vk.Mark

namespace Go.Vk.Mark
open Go Go.Vk
open Go.Vk.Deed (rng rng_iff)
section
variable {cz cz0 cs : List Clm} {ms : List Nat} {m t k j i : Nat} {c : Clm} {o : Int} {cn : List Int}
end
end Go.Vk.Mark

namespace Go.Vk.Mark
open Go Go.Vk
open Go.Vk.Deed (rng rng_iff)
section
variable {cz cs : List Clm} {b : Sm} {day : Int} {found : List Sg} {c : Clm} {o : Int} {k i : Nat} {t : Sg}
def good9 (b : Sm) (day : Int) (found : List Sg) (cz : List Clm) (i : Nat) (t : Sg) (o : Int) (c : Clm) : Prop :=
 c.owner ≠ o ∧ 1 ≤ c.number ∧ fitsO b day t c.owner = true ∧ canB (lessC cz c.owner) (cnz b day (found.take i ++ found.drop (i + 1)) (lessC cz c.owner)) = true
end
end Go.Vk.Mark

namespace Go.Vk.Mark
open Go Go.Vk
open Go.Vk.Deed (rng rng_iff sumI sumI_cons owners)
section
variable {cs cs' cz : List Clm} {F : Fs} {p : Nat → Bool} {q : Int → Bool} {f : Int → Bool}
def needO (cs : List Clm) (q : Int → Bool) : Int := sumI (cs.map fun c => if q c.owner = true then c.number else 0)
def coverO (F : Fs) (cs : List Clm) (q : Int → Bool) : Int := ((F.filter fun f => cs.any fun c => q c.owner && f c.owner).length : Nat)
theorem begin_own {b : Sm} {day : Int} {right : Bool} {found : List Sg} (h : beginE b day right found cs = 0) : ∀ c ∈ cs, ownB c.owner = true := fun c hc => by
 have := (claim_ok (begin_parts h).2.2).2.1 c hc
 unfold claimB at this
 rw [Bool.and_eq_true] at this
 exact this.1
end
end Go.Vk.Mark

namespace Go.Vk.Mark
open Go Go.Vk
open Go.Vk.Deed (rng rng_iff sumI sumI_cons owners)
section
variable {cs : List Clm} {F : Fs} {f : Int → Bool} {c : Clm} {o z : Int} {k n i : Nat}
theorem find_own9 (ha : Apart9 cs) (hc : cs[k]? = some c) (ho : c.owner = o) : cs.find? (fun c : Clm => decide (c.owner = o)) = some c := by
 cases e : cs.find? (fun c : Clm => decide (c.owner = o)) with
 | none =>
  have := List.find?_eq_none.1 e c (List.mem_of_getElem? hc)
  simp [ho] at this
 | some x =>
  have h0 := List.find?_some e
  have h1 : x.owner = o := by simpa using h0
  obtain ⟨j, hj⟩ := List.getElem?_of_mem (List.mem_of_find?_eq_some e)
  have := ha j k x c hj hc (h1.trans ho.symm)
  subst this
  rw [hj] at hc; exact hc
theorem may_at (ha : Apart9 cs) (hk : idxO cs o = k) (hc : cs[k]? = some c) : mayGive f F cs o = (decide (0 < c.number) && f o && metB F (giveC cs k 1)) := by
 have ho := (idxO_iff ha hc).1 hk
 unfold mayGive numOf
 rw [find_own9 ha hc ho, give_claim ha hc, ho]; rfl
theorem hall_may (ha : Apart9 cs) (ho : ∀ c ∈ cs, ownB c.owner = true) (h : Met (f :: F) cs) (hn : metB F cs = false) : ∃ q : Nat, q < 40 ∧ mayGive f F cs ((q : Int) + 1) = true := by
 rcases hall_step h with g | ⟨k, hk, hf, hp, g⟩
 ·rw [met_iff.2 g] at hn; cases hn
 have hc : cs[k]? = some cs[k] := List.getElem?_eq_getElem hk
 have h1 := ho _ (List.getElem_mem hk)
 unfold ownB at h1
 rw [rng_iff] at h1
 have e : ((cs[k].owner.toNat - 1 : Nat) : Int) + 1 = cs[k].owner := by omega
 refine ⟨cs[k].owner.toNat - 1, by omega, ?_⟩
 rw [e, may_at ha ((idxO_iff ha hc).2 rfl) hc]
 have h2 : 0 < cs[k].number := by unfold numAt at hp; rw [hc] at hp; exact hp
 have h3 : f cs[k].owner = true := by unfold fitAt at hf; rw [hc] at hf; exact hf
 rw [decide_eq_true h2, h3, give_dec, met_iff.2 g]; rfl
theorem as_met (h : metB F cs = true) : assignS (f :: F) cs = 0 :: assignS F cs := by
 have : pickO f F cs = 0 := by unfold pickO; rw [if_pos h]
 show pickO f F cs :: assignS F (if pickO f F cs = 0 then cs else lessC cs (pickO f F cs)) = _
 rw [this, if_pos rfl]
theorem fs_drop {b : Sm} {day : Int} {found : List Sg} {t : Sg} (ht : found[i]? = some t) : fs b day (found.drop i) = fitsO b day t :: fs b day (found.drop (i + 1)) := by
 rw [drop_cons ht]; rfl
end
structure RasI (b : Sm) (day : Int) (found : List Sg) (cq : List Clm) (i : Nat) (ol : List Int) (lf : List Clm) : Prop where
 len : lf.length ≤ 10
 bd : ∀ c ∈ lf, 0 ≤ c.number ∧ c.number ≤ 60
 ap : Apart9 lf
 own : ∀ c ∈ lf, ownB c.owner = true
 met : Met (fs b day (found.drop i)) lf
 out : assignS (fs b day found) cq = ol ++ assignS (fs b day (found.drop i)) lf
 ol : ol.length = i
section
variable {b : Sm} {day : Int} {found : List Sg} {cq lf : List Clm} {i : Nat} {ol : List Int} {t : Sg} {z : Int}
theorem RasI.start (hb : beginE b day true found cq = 0) (hm : metB (fs b day found) cq = true) : RasI b day found cq 0 [] cq := by
 obtain ⟨h1, h2, h3⟩ := claim_ok (begin_parts hb).2.2
 refine ⟨h1, fun c hc => ?_, apart_of h3, begin_own hb, met_iff.1 hm, rfl, rfl⟩
 have := h2 c hc
 unfold claimB at this
 rw [Bool.and_eq_true, rng_iff] at this
 exact this.2
theorem RasI.stay (h : RasI b day found cq i ol lf) (ht : found[i]? = some t) (hm : metB (fs b day (found.drop (i + 1))) lf = true) : RasI b day found cq (i + 1) (ol ++ [0]) lf :=
 ⟨h.len, h.bd, h.ap, h.own, met_iff.1 hm, by rw [h.out, fs_drop ht, as_met hm, List.append_assoc]; rfl, by rw [List.length_append, h.ol]; rfl⟩
theorem RasI.pick (h : RasI b day found cq i ol lf) (ht : found[i]? = some t) (hm : metB (fs b day (found.drop (i + 1))) lf = false) (hn : ∀ q : Nat, q < 40 → mayGive (fitsO b day t) (fs b day (found.drop (i + 1))) lf ((q : Int) + 1) = false) : False := by
 have h1 := h.met
 rw [fs_drop ht] at h1
 obtain ⟨q, hq, g⟩ := hall_may h.ap h.own h1 hm
 rw [hn q hq] at g; cases g
theorem RasI.done (h : RasI b day found cq found.length ol lf) : ol = assignS (fs b day found) cq := by
 rw [h.out, List.drop_length]
 show ol = ol ++ assignS [] lf
 rw [show assignS [] lf = [] from rfl, List.append_nil]
end
end Go.Vk.Mark

namespace Go.Vk.Mark
open Go Go.Vk
def sgF (b : Sm) (x y : Sg) (i : Nat) : Option Int → Sg
 | none => alikeP b x y i
 | some z => (alikeP b x y i).put i z
section
variable {b : Sm} {day : Int} {x y : Sg} {i : Nat} {z : Int}
def fndP (b : Sm) (x y : Sg) (i u : Nat) : Bool := (List.range u).any fun q => mayB b i (x.get i) (q : Int) && mayB b i (y.get i) (q : Int)
def odoR (n j : Nat) : Sg := Sg.of fun k => if j ≤ k then (sgOf n).get k else 0
def frP (b : Sm) (day : Int) (n i : Nat) : Bool := ((force b day).take i).all fun m => (alike b (sgOf n) m.s).isNone
end
end Go.Vk.Mark

namespace Go.Vk.Mark
open Go Go.Vk
open Go.Vk.Deed (rng rng_iff owners)
section
variable {b : Sm} {day o : Int} {s t : Sg} {i : Nat} {x : Int}
end
end Go.Vk.Mark
namespace Go.Vk.Mark
section
variable {b : Sm} {day o : Int} {t : Sg}
theorem zero_mk : MkOk zeroMk := ⟨by unfold B64; decide, by unfold B64; decide, by unfold B64; decide, by constructor <;> (unfold B8; decide)⟩
def sureE (b : Sm) (day : Int) (t : Sg) : Int := openE b day (sightB t)
def sureO (b : Sm) (day : Int) (t : Sg) : Option Int := if sureE b day t = 0 ∧ (ownersOf b day t).length = 1 then (ownersOf b day t)[0]? else none
end
end Go.Vk.Mark
namespace Go.Vk.Mark
open Go.Vk.Deed (rng_iff)
section
variable {b : Sm} {day x y : Int}
end
end Go.Vk.Mark

namespace Go.Vk
open Go Go.ChangeShapes Go.WideShapes Go.RowKit
section
variable {H : Type} {enc : TypeId × Value → H}
theorem returnsIn_laid_and {a : Assume} {C : Checked} {os : Os} {f : FuncId} {fn : Func} {s : ChangeSpec} {conds : List PathCond} {apart fresh handsOn again : Bool} {X : World → Array Value → Prop}
  (hX : ∀ (w w' : World) (args : Array Value), w.heap = w'.heap → X w args → X w' args)
  (own : ownKnob C.prog.godebug = none) (started : os.Started) (noInit : C.prog.inits.idxOf? f = none) (hfn : C.prog.funcs[f]? = some fn)
  (witness : ∃ (w : World) (tape : Tape) (i : Input), w.os = os ∧ (w.forCall tape i).Shaped C.prog ∧ i.vars = [] ∧ Input.okWide C.prog (w.forCall tape i) .any w.heap.size f i ∧
   ((s.pre enc C.prog fn conds apart (w.forCall tape i).memory i.args ∧ X (w.forCall tape i).memory i.args) ∧ sizedMet enc C.prog fn (OpenSpec.ofChange s) apart (w.forCall tape i).memory i.args) ∧ a.holds C.prog (lone (Frame.enter C.prog f i.args .normal) [] (w.forCall tape i)))
  (contract : ∀ (W : World) (base : Nat) (args : Array Value) (ds gs : List (DataW H)) (before : List MemPlace),
   (∀ (j : Nat) t v, fn.params[j]? = some t → args[j]? = some v → Value.okWide C.prog W .any base t v) →
   DataW.Whole enc C.prog fn.params.toList s.vars apart W args.toList ds gs before →
   W.ShapedOpen C.prog → X W args →
   Calls C.prog f args W fun e W' => ∃ v, e = .returned v ∧ s.post enc C.prog fn apart fresh handsOn again W args v W') :
  ReturnsInHanded a C os f .any (fun w args => (s.pre enc C.prog fn conds apart w args ∧ X w args) ∧ sizedMet enc C.prog fn (OpenSpec.ofChange s) apart w args) (s.post enc C.prog fn apart fresh handsOn again) := by
 refine returnsInHanded_of_calls own started noInit witness ?_
 intro w tape i _ hsh _ hok hpre hholds
 obtain ⟨_, _, _, fn', hfn', _, _, _, _, hval⟩ := hok
 have e : fn' = fn := Option.some.inj (hfn'.symm.trans hfn)
 subst e
 obtain ⟨⟨⟨ds, gs, before, hw, hc⟩, hx⟩, hz⟩ := hpre
 have hw' := DataW.Whole.of_heap (w' := w.forCall tape i) (by rfl) hw
 refine (contract (w.forCall tape i) w.heap.size i.args ds gs before hval hw' hsh (hX (w.forCall tape i).memory (w.forCall tape i) _ rfl hx)).mono fun e W' ⟨v, he, hp⟩ => ?_
 subst he
 exact ChangeSpec.post_blind hp
end
section
variable {H : Type} {enc : TypeId × Value → H} {P : Program} {W W' : World}
theorem post_lawB {f : Func} {s : ChangeSpec} {apart fresh handsOn : Bool} {args : Array Value} {ds gs : List (DataW H)} {before : List MemPlace} {TB : TypeId}
  (hW : DataW.Whole enc P f.params.toList s.vars apart W args.toList ds gs before) (hl : laidOutB P = true) (hr : ∀ t ∈ f.params.toList, P.readableRec t = true ∧ t < P.types.size)
  (hTB : f.resultTypes = #[TB]) (ht : P.underlying TB = some .bool) (hs1 : (s.fn H (ds ++ gs)).results = [.lit (.bool true)]) (hs2 : (s.fn H (ds ++ gs)).args = ds) (hv0 : s.vars = []) (hv1 : (s.fn H (ds ++ gs)).vars = [])
  (hle : Below W.heap.size W W') : s.post enc P f apart fresh handsOn false W args (.bool true) W' := by
 have hlt : ∀ x ∈ before, x.block < W.heap.size := fun x hx => by simpa using hW.lt x hx
 have hW' := hW
 obtain ⟨p, q, hA, hV, hbe, _, _⟩ := hW
 rw [hv0] at hV
 obtain ⟨_, rfl⟩ := trodVars_none hV
 rw [List.append_nil] at hbe
 subst hbe
 refine ⟨ds, gs, before, [], before, [], hW', ?_, ?_, ?_, World.keptBut_mono (fun p hp => ⟨hp, .inr (.inl hp)⟩) (hle.frame _), fun h => by cases h⟩
 ·rw [hs1, hTB]
  exact trodAll_mk1 (shut_bool ht _)
 ·rw [hs2]
  exact trodAll_below hl hle hr hA hlt
 rw [hv0, hv1]
 rfl
end
end Go.Vk
