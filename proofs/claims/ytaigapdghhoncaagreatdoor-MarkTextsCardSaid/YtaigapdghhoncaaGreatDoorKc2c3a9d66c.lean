/- Texts joined for claims: VkSame, VkArr6, VkMarkMem, VkMarkBd, VkMarkBd2, VkIdx6, VkStr7, VkRow, VkStr8. -/
import Derived.Test.YtaigapdghhoncaaGreatDoorK92608acdbc
import Derived.Test.YtaigapdghhoncaaGreatDoorK1261470d5f
import Derived.DeepKeys4
import Derived.Lib.SplitLaws
import Derived.Carry
import Derived.ProofKit
import Derived.OpenShut
import Derived.Lib.SmallJoins
import Derived.Laws.IdiomStrings
set_option linter.unusedVariables false
set_option linter.unusedSimpArgs false
set_option linter.unusedSectionVars false
namespace Go.Vk
open Go

inductive IntFields (P : Program) : Nat → List Field → Prop
 | nil (k : Nat) : IntFields P k []
 | cons {k : Nat} {f : Field} {fs : List Field} : f.name ≠ "_" → f.offset = k → P.underlying f.type = some (.int .i64) → (∀ w, (isAgg f.type).run P w = .ok false w) → IntFields P (k + 1) fs → IntFields P k (f :: fs)

def intFieldsB (t : TypeId) : Nat → List Field → Bool
 | _, [] => true
 | k, f :: fs => f.name != "_" && (f.offset == k && (f.type == t && intFieldsB t (k + 1) fs))
section
variable {P : Program} {w : World} {E : Operand → Value} {T T' ty : TypeId} {x y : Operand}

def Arc.ints (a : Arc) : List Int := [a.src, a.dst, a.lo, a.hi, a.loBy, a.hiBy]
end
end Go.Vk
namespace Go.Vk
open Go
section
variable {P : Program} {E : Operand → Value} {w : World} {T ty T' : TypeId} {x y : Operand} {p : Prop} [Decidable p]
end
end Go.Vk

namespace Go.Vk
open Go

section
variable {P : Program} {E : Operand → Value} {w : World} {ty T T' : TypeId} {x y : Operand}
theorem x_indexAddr_arrayk {k : IntKind} {b o len s : Nat} {i : Int} {e : TypeId} (hx : E x = .pointer (some ⟨b, o, none⟩)) (hy : E y = .int k i) (hu : ∀ w, (underlying T).run P w = .ok (.array len e) w)
  (hs : ∀ w, (sizeOf e).run P w = .ok s w) (hb : 0 ≤ i ∧ i < len) : X P E (.indexAddr T x y) ty w (.pointer (some ⟨b, o + i.toNat * s, none⟩)) w :=
 ⟨nofun, fun _ _ _ _ => by simp [execOp, hx, hy, Instr.indexAt, Instr.sureAddr, asIntOf, go_sem, hu, hs, hb, addr_add]⟩
theorem x_slarr {b o len s : Nat} {e : TypeId} (hx : E x = .pointer (some ⟨b, o, none⟩)) (hu : ∀ w, (underlying T).run P w = .ok (.array len e) w) (hs : ∀ w, (sizeOf e).run P w = .ok s w) :
  X P E (.slice T x none none none) ty w (.slice (some ⟨b, o, none⟩) len len) w :=
 ⟨nofun, fun _ _ _ _ => by simp [execOp, hx, Instr.sliceAt, Instr.sureAddr, Instr.sliceBounds, go_sem, hu, hs]⟩
theorem x_add8 {a c : Int} (hx : E x = .int .u8 a) (hy : E y = .int .u8 c) (hb : 0 ≤ a + c ∧ a + c ≤ 255) : X P E (.binOp .add T x y T') ty w (.int .u8 (a + c)) w :=
 x_iop hx hy (by simp only [iop]; congr 2; unfold IntKind.wrap; simp [IntKind.bits, IntKind.signed]; omega)
end
theorem blk_rd {α : Type} {E : Elt α} {w : World} {l : List α} {b o n : Nat} {c : List Value} {T : TypeId} (hb : Blk w b c T) (hn : l.length = n) (hc : ∀ (i : Nat) (a : α), l[i]? = some a → ∀ j x, (E.enc a)[j]? = some x → c[o + i * E.sz + j]? = some x) :
  Rd E w (.slice (some ⟨b, o, none⟩) n n) l := by
 subst hn
 exact ⟨_, _, rfl, Nat.le_refl _, fun i a ha => ⟨b, o, rfl, fun j x hx => hb.cell (hc i a ha j x hx)⟩⟩
def u8E (T : TypeId) : Elt Int where
 T := T
 sz := 1
 enc x := [.int .u8 x]
 zero := [.int .u8 0]
 len _ := rfl
 zlen := rfl
 one a x h := by simp at h; subst h; rfl
 pos := by decide

structure KeyS {α : Type} (P : Program) (kt : TypeId) (enc : α → Value) (ok : α → Prop) : Prop where
 law : WideMaps.KeyLaw P kt
 typ : ∃ m, m ≤ 10000 ∧ P.keyTypeAt m kt = true
 wide : (match P.underlying kt with | some (.array _ _) | some (.struct _) => true | _ => false) = true
 grd : P.eqGuardType P.depth kt = false
 has : ∀ a, ok a → ∃ l, keyOf P kt (enc a) = some l
 agg : ∀ a, ∃ cs, enc a = .agg cs
 inj : ∀ a b, enc a = enc b → a = b
section
variable {α : Type} [DecidableEq α] {P : Program} {kt : TypeId} {enc : α → Value} {ok : α → Prop} {E : Operand → Value} {w : World} {ty T' : TypeId} {x y : Operand} {a b : α}
omit [DecidableEq α] in
theorem KeyS.equal (K : KeyS P kt enc ok) (w : World) (ha : ok a) (hb : ok b) : ∃ r : Bool, (Op.equal kt (enc a) (enc b)).run P w = .ok r w ∧ (r = true ↔ a = b) := by
 obtain ⟨la, h1⟩ := K.has a ha
 obtain ⟨lb, h2⟩ := K.has b hb
 obtain ⟨m, hm, hk⟩ := K.typ
 obtain ⟨r, hr, hiff⟩ := run_equal_deep w hm hk K.wide h1 h2
 refine ⟨r, hr, hiff.trans ⟨fun e => ?_, fun e => ?_⟩⟩
 ·subst e; exact K.inj _ _ (K.law.inj h1 h2)
 subst e; rw [h1] at h2; exact Option.some.inj h2
theorem x_eqS (K : KeyS P kt enc ok) (ha : ok a) (hb : ok b) (hx : E x = enc a) (hy : E y = enc b) : X P E (.binOp .eql kt x y T') ty w (.bool (decide (a = b))) w := by
 obtain ⟨r, hr, hiff⟩ := K.equal w ha hb
 have e : r = decide (a = b) := by rw [Bool.eq_iff_iff, hiff, decide_eq_true_iff]
 subst e
 obtain ⟨ca, ea⟩ := K.agg a
 obtain ⟨cb, eb⟩ := K.agg b
 rw [ea, eb] at hr
 rw [ea] at hx
 rw [eb] at hy
 refine ⟨nofun, fun _ _ _ _ => ?_⟩
 have h1 : (Op.equalIn 10000 kt (.agg ca) (.agg cb)).run P w = .ok (decide (a = b)) w := hr
 simp only [execOp, hx, hy, Sem.run_bind, run_eqGuard_agg w .eql kt x y _ _ K.grd, Result.andThen_ok, run_eql_struct, h1, Sem.run_pure]
theorem x_neS (K : KeyS P kt enc ok) (ha : ok a) (hb : ok b) (hx : E x = enc a) (hy : E y = enc b) : X P E (.binOp .neq kt x y T') ty w (.bool (decide (¬ a = b))) w := by
 obtain ⟨r, hr, hiff⟩ := K.equal w ha hb
 have e : r = decide (a = b) := by rw [Bool.eq_iff_iff, hiff, decide_eq_true_iff]
 subst e
 obtain ⟨ca, ea⟩ := K.agg a
 obtain ⟨cb, eb⟩ := K.agg b
 rw [ea, eb] at hr
 rw [ea] at hx
 rw [eb] at hy
 refine ⟨nofun, fun _ _ _ _ => ?_⟩
 have h1 : (Op.equalIn 10000 kt (.agg ca) (.agg cb)).run P w = .ok (decide (a = b)) w := hr
 simp only [execOp, hx, hy, Sem.run_bind, run_eqGuard_agg w .neq kt x y _ _ K.grd, Result.andThen_ok, run_neq_struct, h1, Sem.run_pure]
 congr 2
 rw [← decide_not]
end

structure KeyA {κ : Type} (P : Program) (kt : TypeId) (key : κ → Value) : Prop where
 law : WideMaps.KeyLaw P kt
 has : ∀ k, ∃ l, keyOf P kt (key k) = some l
 inj : ∀ k k', key k = key k' → k = k'
section
variable {κ α : Type} [DecidableEq κ] {key : κ → Value} {val : α → Value} {f : κ → Option α} {es : Array MapEntry} {clock : Nat} {k : κ} {a : α} {P : Program} {kt : TypeId}
omit [DecidableEq κ] in
theorem MapOk.findA (h : MapOk key val f es clock) (hK : KeyA P kt key) (k : κ) (w : World) :
  (f k = none ∧ (Instr.findKey kt (key k) es.toList).run P w = .ok none w ∧ ∀ x ∈ es.toList, x.key ≠ key k) ∨
  ∃ a j e, f k = some a ∧ (Instr.findKey kt (key k) es.toList).run P w = .ok (some (j, val a)) w ∧ es[j]? = some e ∧ e.key = key k ∧ e.val = val a := by
 have hks : ∀ x ∈ es.toList, ∃ l, keyOf P kt x.key = some l := fun x hx => by
  obtain ⟨k', _, h1, _⟩ := h.of x hx; rw [h1]; exact hK.has k'
 obtain ⟨lk, hlk⟩ := hK.has k
 rcases hK.law.find w hlk es.toList hks with ⟨h1, h2⟩ | ⟨j, e, h1, h2, h3⟩
 ·refine .inl ⟨?_, h1, h2⟩
  cases hf : f k with
  | none => rfl
  | some a =>
   obtain ⟨x, hx, e1, _⟩ := h.all k a hf
   exact absurd e1 (h2 x hx)
 obtain ⟨k', a, e1, e2, e3⟩ := h.of e (List.mem_of_getElem? h2)
 have : k' = k := hK.inj _ _ (e1.symm.trans h3)
 subst this
 exact .inr ⟨a, j, e, e3, by rw [h1, e2], by rw [← Array.getElem?_toList]; exact h2, h3, e2⟩
theorem MapOk.pushA (h : MapOk key val f es clock) (h2 : ∀ x ∈ es.toList, x.key ≠ key k) (a : α) : MapOk key val (mset f k a) (es.push { key := key k, val := val a, born := clock }) (clock + 1) := by
 refine ⟨MapKept.stamped_push h.st h2, fun x hx => ?_, fun k' a' hf => ?_⟩
 ·simp only [Array.toList_push, List.mem_append, List.mem_singleton] at hx
  rcases hx with hx | rfl
  ·obtain ⟨k', a', e1, e2, e3⟩ := h.of x hx
   refine ⟨k', a', e1, e2, ?_⟩
   rw [mset, if_neg (fun e => h2 x hx (by rw [e1, e]))]; exact e3
  exact ⟨k, a, rfl, rfl, by rw [mset, if_pos rfl]⟩
 simp only [Array.toList_push, List.mem_append, List.mem_singleton]
 unfold mset at hf
 split at hf
 ·next e => cases hf; subst e; exact ⟨_, .inr rfl, rfl, rfl⟩
 obtain ⟨x, hx, e1, e2⟩ := h.all k' a' hf
 exact ⟨x, .inl hx, e1, e2⟩
theorem MapOk.modifyA (h : MapOk key val f es clock) (hK : KeyA P kt key) {j : Nat} {e : MapEntry} (he : es[j]? = some e) (hk : e.key = key k) (a : α) : MapOk key val (mset f k a) (es.modify j fun e => { e with key := key k, val := val a }) clock := by
 have hget : ∀ i, (es.modify j fun e => { e with key := key k, val := val a })[i]? = if j = i then es[i]?.map (fun e => { e with key := key k, val := val a }) else es[i]? := fun i => by rw [Array.getElem?_modify]
 refine ⟨MapKept.stamped_modify h.st j _ (fun _ _ => rfl) (fun e' _ h' => by rw [he] at h'; cases h'; exact hk.symm), fun x hx => ?_, fun k' a' hf => ?_⟩
 ·obtain ⟨i, hi⟩ := List.mem_iff_getElem?.1 hx
  rw [Array.getElem?_toList, hget] at hi
  split at hi
  ·next e1 =>
   subst e1
   rw [he] at hi
   cases hi
   exact ⟨k, a, rfl, rfl, by rw [mset, if_pos rfl]⟩
  next e1 =>
  obtain ⟨k', a', q1, q2, q3⟩ := h.of x (List.mem_of_getElem? (by rw [Array.getElem?_toList]; exact hi))
  refine ⟨k', a', q1, q2, ?_⟩
  rw [mset, if_neg (fun e2 => e1 ?_)]; exact q3
  have hn := List.pairwise_iff_getElem.1 (MapKept.stamped_iff es clock |>.1 h.st).2.2
  obtain ⟨l1, g1⟩ := Array.getElem?_eq_some_iff.1 he
  obtain ⟨l2, g2⟩ := Array.getElem?_eq_some_iff.1 hi
  rcases Nat.lt_trichotomy j i with hlt | hlt | hlt
  ·exact absurd (show es.toList[j].key = es.toList[i].key by rw [Array.getElem_toList, Array.getElem_toList, g1, g2, hk, q1, e2]) (hn j i (by simpa using l1) (by simpa using l2) hlt)
  ·exact hlt
  exact absurd (show es.toList[i].key = es.toList[j].key by rw [Array.getElem_toList, Array.getElem_toList, g1, g2, hk, q1, e2]) (hn i j (by simpa using l2) (by simpa using l1) hlt)
 unfold mset at hf
 split at hf
 ·next e1 =>
  cases hf; subst e1
  exact ⟨_, List.mem_iff_getElem?.2 ⟨j, by rw [Array.getElem?_toList, hget, if_pos rfl, he]; rfl⟩, rfl, rfl⟩
 next e1 =>
 obtain ⟨x, hx, q1, q2⟩ := h.all k' a' hf
 obtain ⟨i, hi⟩ := List.mem_iff_getElem?.1 hx
 refine ⟨x, List.mem_iff_getElem?.2 ⟨i, ?_⟩, q1, q2⟩
 rw [Array.getElem?_toList] at hi ⊢
 rw [hget, if_neg (fun e2 => e1 ?_)]; exact hi
 subst e2
 rw [he] at hi; cases hi
 exact hK.inj _ _ (q1.symm.trans hk)
end
section
variable {κ α : Type} [DecidableEq κ] {key : κ → Value} {val : α → Value} {f : κ → Option α} {k0 : κ} {a0 : α} {P : Program} {E : Operand → Value} {w : World} {ty T kt et : TypeId} {x y : Operand} {b : Nat} {v z : Value}
omit [DecidableEq κ] in
theorem x_lookup2A {t : Bool} (h : (mapr key val b f).ok w) (hK : KeyA P kt key) (hu : ∀ w, (underlying T).run P w = .ok (.map kt et) w) (hx : E x = .map (some b)) (hy : E y = key k0) (hz : ∀ w, (zeroValue et).run P w = .ok z w)
  (hv : ((f k0).elim z val) = v) (ht : (f k0).isSome = t) : X P E (.lookup T x y true) ty w (.tuple #[v, .bool t]) w := by
 subst hv; subst ht
 obtain ⟨es, clock, hb, hM⟩ := h
 obtain ⟨lk, hlk⟩ := hK.has k0
 refine ⟨nofun, fun _ _ _ _ => ?_⟩
 rcases hM.findA hK k0 w with ⟨h1, h2, _⟩ | ⟨a, j, e, h1, h2, _⟩
 ·simp [execOp, Instr.lookup, hx, hy, Sem.run_bind, hu, Result.andThen, MapKept.run_getObj_map hb, hK.law.check w _ hlk, h2, hz, h1]
 simp [execOp, Instr.lookup, hx, hy, Sem.run_bind, hu, Result.andThen, MapKept.run_getObj_map hb, hK.law.check w _ hlk, h2, h1]
theorem run_mapUpdateA (h : (mapr key val b f).ok w) (hK : KeyA P kt key) (hu : ∀ w, (underlying T).run P w = .ok (.map kt et) w) :
  ∃ es clock, (Instr.mapUpdate T (.map (some b)) (key k0) (val a0)).run P w = .ok () { w with heap := w.heap.setIfInBounds b (.map es clock) } ∧ MapOk key val (mset f k0 a0) es clock := by
 obtain ⟨es, clock, hb, hM⟩ := h
 obtain ⟨lk, hlk⟩ := hK.has k0
 rcases hM.findA hK k0 w with ⟨_, h2, h3⟩ | ⟨a, j, e, _, h2, h3, h4, _⟩
 ·exact ⟨_, _, by simp [Instr.mapUpdate, Sem.run_bind, hu, Result.andThen, MapKept.run_getObj_map hb, hK.law.check w _ hlk, h2, MapKept.run_setObj_map _ hb], hM.pushA h3 a0⟩
 exact ⟨_, _, by simp [Instr.mapUpdate, Sem.run_bind, hu, Result.andThen, MapKept.run_getObj_map hb, hK.law.check w _ hlk, h2, h3, h4, hK.law.stays w hlk, MapKept.run_setObj_map _ hb], hM.modifyA hK h3 h4 a0⟩
end
section
variable {P : Program} {b : Frame} {cs : List Frame} {fin : Machine → Prop} {n : Nat} {all : Array Oper} {rest : List Oper} {k : List Item} {ρ : Env} {ds : List Deferred} {w w' : World}
 {d : Nat} {ty : TypeId} {pos : String} {af : Array Edge} {g : Option (Nat × Bool)} {T kt et : TypeId} {x y z : Operand}
 {κ α : Type} [DecidableEq κ] {key : κ → Value} {val : α → Value} {f : κ → Option α} {k0 : κ} {a0 : α} {X : Nat → Prop} {w0 : World} {L : List Rsc} {m : Nat} {d' : Option Nat}
theorem l_mapUpdateA (S : Own X w0 w L) (j : Nat) (hj : L[j]? = some (mapr key val m f)) (hg : gOk all n ρ g = true) (hK : KeyA P kt key) (hu : ∀ w, (underlying T).run P w = .ok (.map kt et) w)
  (hx : ev n ρ x = .map (some m)) (hy : ev n ρ y = key k0) (hz : ev n ρ z = val a0)
  (h : ∀ w', Own X w0 w' (L.set j (mapr key val m (mset f k0 a0))) → Keep (· = m) w w' → RunL P b cs fin n all rest k (updO d' undef ρ) ds w') :
  RunL P b cs fin n all (⟨d', .mapUpdate T x y z, ty, pos, af, g⟩ :: rest) k ρ ds w := by
 obtain ⟨es, clock, h1, h2⟩ := run_mapUpdateA (k0 := k0) (a0 := a0) (S.at j hj) hK hu
 refine l_skip hg nofun ?_ (h _ (S.setMap j hj h2) (Keep.setObj w _))
 simp only [execOp, hx, hy, hz, Sem.run_bind, h1, Result.andThen_ok, Sem.run_pure]
end
end Go.Vk

namespace Go.Vk.Mark
open Go Go.Vk
open Go.Vk.Deed (i64 rng rng_iff owners sumI)
abbrev u8 (x : Int) : Value := .int .u8 x
def encSg (s : Sg) : List Value := [u8 s.a0, u8 s.a1, u8 s.a2, u8 s.a3, u8 s.a4, u8 s.a5]
def encMk (m : Mk) : List Value := [i64 m.owner, i64 m.frm, i64 m.til, u8 m.s.a0, u8 m.s.a1, u8 m.s.a2, u8 m.s.a3, u8 m.s.a4, u8 m.s.a5]
def encFd (x : Fde) : List Value := [u8 x.sign, u8 x.seen]
def encCl (c : Clm) : List Value := [i64 c.owner, i64 c.number]
def encPr (p : Pr) : List Value := [i64 p.1, i64 p.2]
def mkE (T : TypeId) : Elt Mk where
 T := T
 sz := 9
 enc := encMk
 zero := [i64 0, i64 0, i64 0, u8 0, u8 0, u8 0, u8 0, u8 0, u8 0]
 len _ := rfl
 zlen := rfl
 one a x h := by simp [encMk] at h; rcases h with h | h | h | h | h | h | h | h | h <;> subst h <;> rfl
 pos := by decide
def fdE (T : TypeId) : Elt Fde where
 T := T
 sz := 2
 enc := encFd
 zero := [u8 0, u8 0]
 len _ := rfl
 zlen := rfl
 one a x h := by simp [encFd] at h; rcases h with h | h <;> subst h <;> rfl
 pos := by decide
def sgE (T : TypeId) : Elt Sg where
 T := T
 sz := 6
 enc := encSg
 zero := [u8 0, u8 0, u8 0, u8 0, u8 0, u8 0]
 len _ := rfl
 zlen := rfl
 one a x h := by simp [encSg] at h; rcases h with h | h | h | h | h | h <;> subst h <;> rfl
 pos := by decide
def clE (T : TypeId) : Elt Clm where
 T := T
 sz := 2
 enc := encCl
 zero := [i64 0, i64 0]
 len _ := rfl
 zlen := rfl
 one a x h := by simp [encCl] at h; rcases h with h | h <;> subst h <;> rfl
 pos := by decide
def prE (T : TypeId) : Elt Pr where
 T := T
 sz := 2
 enc := encPr
 zero := [i64 0, i64 0]
 len _ := rfl
 zlen := rfl
 one a x h := by simp [encPr] at h; rcases h with h | h <;> subst h <;> rfl
 pos := by decide

def B8 (x : Int) : Prop := 0 ≤ x ∧ x ≤ 255
def B64 (x : Int) : Prop := -9223372036854775808 ≤ x ∧ x ≤ 9223372036854775807
structure SgOk (s : Sg) : Prop where
 h0 : B8 s.a0
 h1 : B8 s.a1
 h2 : B8 s.a2
 h3 : B8 s.a3
 h4 : B8 s.a4
 h5 : B8 s.a5
structure MkOk (m : Mk) : Prop where
 o : B64 m.owner
 f : B64 m.frm
 t : B64 m.til
 s : SgOk m.s
structure FdOk (x : Fde) : Prop where
 g : B8 x.sign
 n : B8 x.seen
structure SmR (TM TF : TypeId) (w : World) (vm vf : Value) (b : Sm) : Prop where
 m : Rd (mkE TM) w vm b.marks
 f : Rd (fdE TF) w vf b.fades
 om : ∀ x ∈ b.marks, MkOk x
 of : ∀ x ∈ b.fades, FdOk x
 lm : b.marks.length ≤ 9223372036854775807
 lf : b.fades.length ≤ 9223372036854775807
theorem SmR.le {TM TF : TypeId} {w w' : World} {vm vf : Value} {b : Sm} (h : SmR TM TF w vm vf b) (hk : Le w w') : SmR TM TF w' vm vf b := ⟨h.m.le hk, h.f.le hk, h.om, h.of, h.lm, h.lf⟩
theorem sg_rd {w : World} {b : Nat} {s : Sg} {T TU : TypeId} (h : Blk w b (encSg s) T) : Rd (u8E TU) w (.slice (some ⟨b, 0, none⟩) 6 6) s.l := by
 refine blk_rd h rfl fun i a ha j x hx => ?_
 have hi : i < 6 := (List.getElem?_eq_some_iff.1 ha).1
 have hj : j = 0 := by
  have := (List.getElem?_eq_some_iff.1 hx).1
  simp [u8E] at this; omega
 subst hj
 have e : a = s.l[i] := ((List.getElem?_eq_some_iff.1 ha).2).symm
 have ex : x = u8 a := by simp [u8E] at hx; exact hx.symm
 subst ex; subst e
 rcases i with _ | _ | _ | _ | _ | _ | i <;> first | rfl | omega
theorem sg_at {s : Sg} {i : Nat} (h : i < 6) : (encSg s)[i]? = some (u8 (s.get i)) := by
 rcases i with _ | _ | _ | _ | _ | _ | i <;> first | rfl | omega
theorem sg_ok {s : Sg} (h : SgOk s) (i : Nat) : B8 (s.get i) := by
 obtain ⟨h0, h1, h2, h3, h4, h5⟩ := h
 rcases i with _ | _ | _ | _ | _ | _ | i <;> first | assumption | exact ⟨Int.le_refl _, by show (0 : Int) ≤ 255; omega⟩
theorem sg_inj {a b : Sg} (h : (Value.agg (encSg a).toArray) = .agg (encSg b).toArray) : a = b := by
 cases a; cases b; simp [encSg] at h; simp [h]
theorem mk_inj {a b : Mk} (h : (Value.agg (encMk a).toArray) = .agg (encMk b).toArray) : a = b := by
 obtain ⟨_, _, _, s⟩ := a; obtain ⟨_, _, _, t⟩ := b; cases s; cases t; simp [encMk] at h; simp [h]
theorem fd_inj {a b : Fde} (h : (Value.agg (encFd a).toArray) = .agg (encFd b).toArray) : a = b := by
 cases a; cases b; simp [encFd] at h; simp [h]
theorem pr_inj {a b : Pr} (h : (Value.agg (encPr a).toArray) = .agg (encPr b).toArray) : a = b := by
 obtain ⟨_, _⟩ := a; obtain ⟨_, _⟩ := b; simp [encPr] at h; simp [h]
end Go.Vk.Mark

namespace Go.Vk.Mark
open Go Go.Vk
open Go.Vk.Deed (i64 rng rng_iff owners sumI)
def tabB (n : Nat) (f : Nat → Bool) : List Value := (List.range n).map fun k => .bool (f k)
def upB (f : Nat → Bool) (i : Nat) (v : Bool) : Nat → Bool := fun k => if k = i then v else f k
theorem upB_same {f : Nat → Bool} {i : Nat} {v : Bool} : upB f i v i = v := if_pos rfl
theorem upB_ne {f : Nat → Bool} {i k : Nat} {v : Bool} (h : k ≠ i) : upB f i v k = f k := if_neg h
def bdC (vm vo : Value) (f : Nat → Bool) : List Value := vm :: vo :: tabB 25 f
theorem tabB_len (n : Nat) (f : Nat → Bool) : (tabB n f).length = n := by simp [tabB]
theorem tabB_get {n i : Nat} {f : Nat → Bool} (h : i < n) : (tabB n f)[i]? = some (.bool (f i)) := by simp [tabB, h]
theorem tabB_set {n i : Nat} {f : Nat → Bool} {x : Bool} : (tabB n f).set i (.bool x) = tabB n (upB f i x) := by
 apply List.ext_getElem?
 intro j
 rw [List.getElem?_set]
 by_cases hj : j < n
 ·rw [show (tabB n (upB f i x))[j]? = _ from tabB_get hj]
  by_cases e : i = j
  ·subst e; rw [if_pos rfl, if_pos (by rw [tabB_len]; exact hj), upB_same]
  rw [if_neg e, tabB_get hj, upB_ne (Ne.symm e)]
 rw [List.getElem?_eq_none (l := tabB n (upB f i x)) (by rw [tabB_len]; omega)]
 by_cases e : i = j
 ·subst e; rw [if_pos rfl, if_neg (by rw [tabB_len]; exact hj)]
 rw [if_neg e, List.getElem?_eq_none (by rw [tabB_len]; omega)]
theorem tabB_congr {n : Nat} {f g : Nat → Bool} (h : ∀ k, k < n → f k = g k) : tabB n f = tabB n g := by
 unfold tabB
 exact List.map_congr_left fun k hk => by rw [h k (List.mem_range.1 hk)]
section
variable {vm vo : Value} {f : Nat → Bool} {i j : Nat} {x : Bool}
theorem bd_two (hi : i < 5) (hj : j < 5) : i * 5 + j < 25 := by omega
theorem bd_get (hi : i < 5) (hj : j < 5) : (bdC vm vo f)[2 + i * 5 + j * 1]? = some (.bool (f (i * 5 + j))) := by
 rw [show 2 + i * 5 + j * 1 = (i * 5 + j) + 2 by omega]
 exact tabB_get (bd_two hi hj)
theorem bd_lt (hi : i < 5) (hj : j < 5) : 2 + i * 5 + j * 1 < (bdC vm vo f).length := by
 show _ < (tabB 25 f).length + 2
 rw [tabB_len]; omega
theorem bd_set (hi : i < 5) (hj : j < 5) : (bdC vm vo f).set (2 + i * 5 + j * 1) (.bool x) = bdC vm vo (upB f (i * 5 + j) x) := by
 rw [show 2 + i * 5 + j * 1 = (i * 5 + j) + 2 by omega]
 show vm :: vo :: (tabB 25 f).set (i * 5 + j) (.bool x) = _
 rw [tabB_set]; rfl
end
def seenF (b : Sm) (k : Nat) : Bool := decide (k / 5 = k % 5) || fadesTo b (k / 5 : Nat) (k % 5 : Nat)
theorem seen_at {b : Sm} {x v : Int} (hx : 0 ≤ x ∧ x ≤ 4) (hv : 0 ≤ v ∧ v ≤ 4) : seenF b (x.toNat * 5 + v.toNat) = (decide (x = v) || fadesTo b x v) := by
 have e1 : (x.toNat * 5 + v.toNat) / 5 = x.toNat := by omega
 have e2 : (x.toNat * 5 + v.toNat) % 5 = v.toNat := by omega
 unfold seenF
 rw [e1, e2, show ((x.toNat : Nat) : Int) = x by omega, show ((v.toNat : Nat) : Int) = v by omega]
 congr 1
 exact decide_eq_decide.2 (by omega)
abbrev KSg := { s : Sg // SgOk s }
def kSg (k : KSg) : Value := .agg (encSg k.1).toArray
structure BdR (TM TB : TypeId) (w : World) (bb : Nat) (vm : Value) (mm : Nat) (g : KSg → Option Int) (b : Sm) (day : Int) : Prop where
 blk : Blk w bb (bdC vm (.map (some mm)) (seenF b)) TB
 mr : Rd (mkE TM) w vm (force b day)
 mp : RO (mapr kSg kInt mm g) w
 hg : ∀ k : KSg, (g k).isSome = true ↔ ∃ m ∈ force b day, m.s = k.1
 ok : checkS b = 0
 dy : dayB day = true
 om : ∀ m ∈ b.marks, MkOk m
theorem BdR.le {TM TB : TypeId} {w w' : World} {bb : Nat} {vm : Value} {mm : Nat} {g : KSg → Option Int} {b : Sm} {day : Int} (h : BdR TM TB w bb vm mm g b day) (hk : Le w w') : BdR TM TB w' bb vm mm g b day :=
 ⟨h.blk.keep hk id, h.mr.le hk, h.mp.le hk, h.hg, h.ok, h.dy, h.om⟩
section
variable {b : Sm} {day o : Int} {m n : Mk}
theorem mem_own {o : Int} : o ∈ owners ↔ 1 ≤ o ∧ o ≤ 40 := by
 rw [owners, List.mem_map]
 constructor
 ·rintro ⟨n, hn, rfl⟩
  have := List.mem_range.1 hn
  omega
 intro h
 exact ⟨(o - 1).toNat, List.mem_range.2 (by omega), by omega⟩
theorem own_asc : owners.Pairwise (· < ·) := by
 rw [owners, List.pairwise_map]
 exact List.pairwise_lt_range.imp fun h => by omega
theorem markB_iff : markB m = true ↔ (1 ≤ m.owner ∧ m.owner ≤ 40) ∧ (0 ≤ m.frm ∧ m.frm ≤ m.til ∧ m.til ≤ 100000) ∧ clearB m.s = true := by
 unfold markB ownB
 rw [Bool.and_eq_true, Bool.and_eq_true, rng_iff, decide_eq_true_iff, and_assoc]
theorem on_iff : onDay day m = true ↔ m.frm ≤ day ∧ day ≤ m.til := rng_iff
theorem force_two (h : checkS b = 0) {i j : Nat} (hi : b.marks[i]? = some m) (hj : b.marks[j]? = some n) (hm : onDay day m = true) (hn : onDay day n = true) (e : m.owner = n.owner ∨ m.s = n.s) : i = j := by
 obtain ⟨_, _, _, _, ht⟩ := check_valid h
 rw [on_iff] at hm hn
 rcases Nat.lt_trichotomy i j with g | g | g
 ·exfalso
  refine Bool.eq_false_iff.1 ht (twice_at hj ?_)
  rw [List.any_eq_true]
  refine ⟨m, List.mem_of_getElem? (by rw [List.getElem?_take, if_pos g]; exact hi), ?_⟩
  unfold clash
  rw [decide_eq_true_iff]
  exact ⟨by omega, by omega, e.imp Eq.symm Eq.symm⟩
 ·exact g
 exfalso
 refine Bool.eq_false_iff.1 ht (twice_at hi ?_)
 rw [List.any_eq_true]
 refine ⟨n, List.mem_of_getElem? (by rw [List.getElem?_take, if_pos g]; exact hj), ?_⟩
 unfold clash
 rw [decide_eq_true_iff]
 exact ⟨by omega, by omega, e⟩
theorem markOf_iff (h : checkS b = 0) : markOf b day o = some m ↔ m ∈ b.marks ∧ m.owner = o ∧ onDay day m = true := by
 unfold markOf
 constructor
 ·intro g
  have h1 := List.find?_some g
  rw [Bool.and_eq_true, decide_eq_true_iff] at h1
  exact ⟨List.mem_of_find?_eq_some g, h1⟩
 rintro ⟨h1, rfl, h2⟩
 cases g : b.marks.find? fun x => decide (x.owner = m.owner) && onDay day x with
 | none =>
  have := List.find?_eq_none.1 g m h1
  simp [h2] at this
 | some n =>
  have h3 := List.find?_some g
  rw [Bool.and_eq_true, decide_eq_true_iff] at h3
  obtain ⟨i, hi⟩ := List.getElem?_of_mem h1
  obtain ⟨j, hj⟩ := List.getElem?_of_mem (List.mem_of_find?_eq_some g)
  have := force_two h hi hj h2 h3.2 (.inl h3.1.symm)
  subst this
  rw [hi] at hj; exact hj.symm
theorem mem_force (h : checkS b = 0) : m ∈ force b day ↔ m ∈ b.marks ∧ onDay day m = true := by
 unfold force
 rw [List.mem_filterMap]
 constructor
 ·rintro ⟨o, ho, g⟩
  obtain ⟨h1, _, h2⟩ := (markOf_iff h).1 g
  exact ⟨h1, h2⟩
 rintro ⟨h1, h2⟩
 exact ⟨m.owner, mem_own.2 (markB_iff.1 ((check_valid h).2.1 m h1)).1, (markOf_iff h).2 ⟨h1, rfl, h2⟩⟩
theorem force_asc (h : checkS b = 0) : (force b day).Pairwise fun x y => x.owner < y.owner := by
 unfold force
 rw [List.pairwise_filterMap]
 refine own_asc.imp fun {a c} hac x hx y hy => ?_
 have h1 := ((markOf_iff h).1 hx).2.1
 have h2 := ((markOf_iff h).1 hy).2.1
 omega
theorem force_nd (h : checkS b = 0) : (b.marks.filter (onDay day)).Nodup := by
 rw [List.nodup_iff_pairwise_ne]
 have key : b.marks.Pairwise fun x y => onDay day x = true → onDay day y = true → x ≠ y := by
  rw [List.pairwise_iff_getElem]
  intro i j hi hj hlt h1 h2 e
  have := force_two h (List.getElem?_eq_getElem hi) (List.getElem?_eq_getElem hj) h1 h2 (.inl (by rw [e]))
  omega
 rw [List.pairwise_filter]
 exact key
theorem nodup_perm {α : Type} [BEq α] [LawfulBEq α] {l m : List α} (h1 : l.Nodup) (h2 : m.Nodup) (h : ∀ x, x ∈ l ↔ x ∈ m) : l.Perm m := by
 rw [List.perm_iff_count]
 intro x
 rw [h1.count, h2.count]
 simp [h]
theorem force_sorted (h : checkS b = 0) {l : List Mk} (hp : l.Perm (b.marks.filter (onDay day))) (hs : l.Pairwise fun x y => x.owner ≤ y.owner) : l = force b day := by
 have hf := force_asc (day := day) h
 have hnd : (force b day).Nodup := hf.imp fun {x y} g e => by rw [e] at g; omega
 have hp2 : (force b day).Perm (b.marks.filter (onDay day)) := by
  classical
  refine nodup_perm hnd (force_nd h) fun x => ?_
  rw [mem_force h, List.mem_filter]
 have hp3 : l.Perm (force b day) := hp.trans hp2.symm
 refine hp3.eq_of_pairwise (fun x y hx hy g1 g2 => ?_) hs (hf.imp fun g => by omega)
 -- equal owners in force are one mark
 have e : x.owner = y.owner := by omega
 obtain ⟨m1, d1⟩ := (mem_force h).1 (hp3.mem_iff.1 hx)
 obtain ⟨m2, d2⟩ := (mem_force h).1 hy
 obtain ⟨i, hi⟩ := List.getElem?_of_mem m1
 obtain ⟨j, hj⟩ := List.getElem?_of_mem m2
 have := force_two h hi hj d1 d2 (.inl e)
 subst this
 rw [hi] at hj; exact Option.some.inj hj
theorem force_len (h : checkS b = 0) : (force b day).length ≤ 40 := by
 unfold force
 exact Nat.le_trans (List.length_filterMap_le _ _) (by simp [owners])
end
end Go.Vk.Mark

namespace Go.Vk.Mark
open Go Go.Vk
open Go.Vk.Deed (i64 rng rng_iff owners sumI)
def Sg.put (s : Sg) (i : Nat) (x : Int) : Sg := Sg.of fun k => if k = i then x else s.get k
theorem sgb_get {s : Sg} {i : Nat} (h : i < 6) : (encSg s)[0 + i * 1]? = some (u8 (s.get i)) := by
 rw [show 0 + i * 1 = i by omega]; exact sg_at h
theorem sgb_lt {s : Sg} {i : Nat} (h : i < 6) : 0 + i * 1 < (encSg s).length := by show _ < 6; omega
theorem sgb_set {s : Sg} {i : Nat} {x : Int} (h : i < 6) : (encSg s).set (0 + i * 1) (u8 x) = encSg (s.put i x) := by
 rw [show 0 + i * 1 = i by omega]
 rcases i with _ | _ | _ | _ | _ | _ | i <;> first | rfl | omega
theorem sg_part {s : Sg} {i : Nat} (h : i < 6) : (encSg s).toArray[((i : Nat) : Int).toNat]? = some (u8 (s.get i)) := by
 rw [Int.toNat_natCast, List.getElem?_toArray]; exact sg_at h
theorem sg_of_get {f : Nat → Int} {i : Nat} (h : i < 6) : (Sg.of f).get i = f i := by
 rcases i with _ | _ | _ | _ | _ | _ | i <;> first | rfl | omega
theorem sg_ext {s t : Sg} (h : ∀ i, i < 6 → s.get i = t.get i) : s = t := by
 obtain ⟨a0, a1, a2, a3, a4, a5⟩ := s
 obtain ⟨b0, b1, b2, b3, b4, b5⟩ := t
 have h0 : a0 = b0 := h 0 (by omega)
 have h1 : a1 = b1 := h 1 (by omega)
 have h2 : a2 = b2 := h 2 (by omega)
 have h3 : a3 = b3 := h 3 (by omega)
 have h4 : a4 = b4 := h 4 (by omega)
 have h5 : a5 = b5 := h 5 (by omega)
 rw [h0, h1, h2, h3, h4, h5]
theorem sg_congr {f g : Nat → Int} (h : ∀ i, i < 6 → f i = g i) : Sg.of f = Sg.of g := sg_ext fun i hi => by rw [sg_of_get hi, sg_of_get hi, h i hi]
def zeroSg : Sg := ⟨0, 0, 0, 0, 0, 0⟩
theorem clear_iff {s : Sg} : clearB s = true ↔ ∀ i, i < 6 → s.get i ≤ 4 := by
 unfold clearB
 rw [List.all_eq_true]
 constructor
 ·intro h i hi
  have : s.get i ∈ s.l := by rcases i with _ | _ | _ | _ | _ | _ | i <;> first | (simp [Sg.get, Sg.l]; done) | omega
  simpa using h _ this
 intro h x hx
 have h0 := h 0 (by omega); have h1 := h 1 (by omega); have h2 := h 2 (by omega); have h3 := h 3 (by omega); have h4 := h 4 (by omega); have h5 := h 5 (by omega)
 simp only [Sg.get, Sg.l, List.getD_cons_zero, List.getD_cons_succ] at *
 simp only [List.mem_cons, List.not_mem_nil, or_false] at hx
 rcases hx with rfl | rfl | rfl | rfl | rfl | rfl <;> simpa
theorem sight_iff {s : Sg} : sightB s = true ↔ ∀ i, i < 6 → s.get i ≤ 4 ∨ s.get i = 9 := by
 unfold sightB
 rw [List.all_eq_true]
 constructor
 ·intro h i hi
  have : s.get i ∈ s.l := by rcases i with _ | _ | _ | _ | _ | _ | i <;> first | (simp [Sg.get, Sg.l]; done) | omega
  simpa using h _ this
 intro h x hx
 have h0 := h 0 (by omega); have h1 := h 1 (by omega); have h2 := h 2 (by omega); have h3 := h 3 (by omega); have h4 := h 4 (by omega); have h5 := h 5 (by omega)
 simp only [Sg.get, Sg.l, List.getD_cons_zero, List.getD_cons_succ] at *
 simp only [List.mem_cons, List.not_mem_nil, or_false] at hx
 rcases hx with rfl | rfl | rfl | rfl | rfl | rfl <;> simpa
structure Clr (s : Sg) : Prop where
 ok : SgOk s
 c : clearB s = true
theorem Clr.at {s : Sg} (h : Clr s) {i : Nat} (hi : i < 6) : 0 ≤ s.get i ∧ s.get i ≤ 4 := ⟨(sg_ok h.ok i).1, clear_iff.1 h.c i hi⟩
structure Sig (s : Sg) : Prop where
 ok : SgOk s
 c : sightB s = true
theorem Sig.at {s : Sg} (h : Sig s) {i : Nat} (hi : i < 6) : (0 ≤ s.get i ∧ s.get i ≤ 4) ∨ s.get i = 9 := (sight_iff.1 h.c i hi).imp (fun g => ⟨(sg_ok h.ok i).1, g⟩) id
section
variable {b : Sm} {day o : Int} {m : Mk} {p : Nat} {x y v : Int} {s t : Sg} {i : Nat}
theorem force_clr (h : checkS b = 0) (ho : ∀ m ∈ b.marks, MkOk m) (hm : m ∈ force b day) : Clr m.s := by
 obtain ⟨h1, _⟩ := (mem_force h).1 hm
 exact ⟨(ho m h1).s, (markB_iff.1 ((check_valid h).2.1 m h1)).2.2⟩
theorem may_worn (h : v = 9) : mayB b p x v = true := by simp [mayB, h]
theorem may_self (h : x = v) : mayB b p x v = true := by simp [mayB, h]
theorem may_ear (h1 : ¬ v = 9) (h2 : ¬ x = v) (h3 : ¬ (2 : Int) ≤ p) : mayB b p x v = false := by
 have : ¬ v = x := fun e => h2 e.symm
 have g : ¬ 2 ≤ p := by omega
 simp [mayB, h1, this, g]
theorem may_seen (h1 : ¬ v = 9) (h2 : ¬ x = v) (h3 : (2 : Int) ≤ p) (hx : 0 ≤ x ∧ x ≤ 4) (hv : 0 ≤ v ∧ v ≤ 4) : seenF b (x.toNat * 5 + v.toNat) = mayB b p x v := by
 have : ¬ v = x := fun e => h2 e.symm
 have g : 2 ≤ p := by omega
 rw [seen_at hx hv]
 simp [mayB, h1, h2, this, g]
theorem shows_step (h : ∀ q, q < i → mayB b q (s.get q) (t.get q) = true) (hi : mayB b i (s.get i) (t.get i) = true) : ∀ q, q < i + 1 → mayB b q (s.get q) (t.get q) = true := fun q hq => by
 rcases Nat.lt_or_ge q i with g | g
 ·exact h q g
 rw [show q = i by omega]; exact hi
theorem shows_yes (h : ∀ q, q < 6 → mayB b q (s.get q) (t.get q) = true) : shows b s t = true := List.all_eq_true.2 fun q hq => h q (List.mem_range.1 hq)
theorem shows_no (hi : i < 6) (h : mayB b i (s.get i) (t.get i) = false) : shows b s t = false := by
 unfold shows; rw [List.all_eq_false]; exact ⟨i, List.mem_range.2 hi, by simp [h]⟩
theorem common_at {u : Nat} (hu : u < 5) (h : (mayB b p x u && mayB b p y u) = true) (hn : ∀ q : Nat, q < u → (mayB b p x q && mayB b p y q) = false) : common b p x y = some (u : Int) := by
 unfold common
 have e : ∀ q : Nat, q < u → (mayB b p x (q : Int) && mayB b p y (q : Int)) = false := hn
 rcases u with _ | _ | _ | _ | _ | u
 ·rw [List.find?_cons_of_pos (by exact h)]; rfl
 ·rw [List.find?_cons_of_neg (by rw [show (0 : Int) = ((0 : Nat) : Int) from rfl, e 0 (by omega)]; decide), List.find?_cons_of_pos (by exact h)]; rfl
 ·rw [List.find?_cons_of_neg (by rw [show (0 : Int) = ((0 : Nat) : Int) from rfl, e 0 (by omega)]; decide), List.find?_cons_of_neg (by rw [show (1 : Int) = ((1 : Nat) : Int) from rfl, e 1 (by omega)]; decide), List.find?_cons_of_pos (by exact h)]; rfl
 ·rw [List.find?_cons_of_neg (by rw [show (0 : Int) = ((0 : Nat) : Int) from rfl, e 0 (by omega)]; decide), List.find?_cons_of_neg (by rw [show (1 : Int) = ((1 : Nat) : Int) from rfl, e 1 (by omega)]; decide), List.find?_cons_of_neg (by rw [show (2 : Int) = ((2 : Nat) : Int) from rfl, e 2 (by omega)]; decide), List.find?_cons_of_pos (by exact h)]; rfl
 ·rw [List.find?_cons_of_neg (by rw [show (0 : Int) = ((0 : Nat) : Int) from rfl, e 0 (by omega)]; decide), List.find?_cons_of_neg (by rw [show (1 : Int) = ((1 : Nat) : Int) from rfl, e 1 (by omega)]; decide), List.find?_cons_of_neg (by rw [show (2 : Int) = ((2 : Nat) : Int) from rfl, e 2 (by omega)]; decide), List.find?_cons_of_neg (by rw [show (3 : Int) = ((3 : Nat) : Int) from rfl, e 3 (by omega)]; decide), List.find?_cons_of_pos (by exact h)]; rfl
 omega
theorem common_no (hn : ∀ q : Nat, q < 5 → (mayB b p x q && mayB b p y q) = false) : common b p x y = none := by
 unfold common
 rw [List.find?_eq_none]
 intro z hz
 simp only [List.mem_cons, List.not_mem_nil, or_false] at hz
 rcases hz with rfl | rfl | rfl | rfl | rfl
 ·rw [show (0 : Int) = ((0 : Nat) : Int) from rfl, hn 0 (by omega)]; decide
 ·rw [show (1 : Int) = ((1 : Nat) : Int) from rfl, hn 1 (by omega)]; decide
 ·rw [show (2 : Int) = ((2 : Nat) : Int) from rfl, hn 2 (by omega)]; decide
 ·rw [show (3 : Int) = ((3 : Nat) : Int) from rfl, hn 3 (by omega)]; decide
 rw [show (4 : Int) = ((4 : Nat) : Int) from rfl, hn 4 (by omega)]; decide
theorem no_step {P : Nat → Bool} {u : Nat} (h : ∀ q : Nat, q < u → P q = false) (hu : P u = false) : ∀ q : Nat, q < u + 1 → P q = false := fun q hq => by
 rcases Nat.lt_or_ge q u with g | g
 ·exact h q g
 rw [show q = u by omega]; exact hu
def alikeP (b : Sm) (x y : Sg) (i : Nat) : Sg := Sg.of fun p => if p < i then (commonAt b x y p).getD 0 else 0
theorem alike_step {x y : Sg} (hi : i < 6) : (alikeP b x y i).put i ((commonAt b x y i).getD 0) = alikeP b x y (i + 1) := by
 refine sg_congr fun k hk => ?_
 by_cases e : k = i
 ·subst e; rw [if_pos rfl, if_pos (by omega)]
 rw [if_neg e]
 show (Sg.of _).get k = _
 rw [sg_of_get hk]
 by_cases g : k < i
 ·rw [if_pos g, if_pos (by omega)]
 rw [if_neg g, if_neg (by omega)]
theorem alike_yes {x y : Sg} (h : ∀ q, q < 6 → (commonAt b x y q).isSome = true) : alike b x y = some (alikeP b x y 6) := by
 unfold alike
 rw [if_pos (List.all_eq_true.2 fun q hq => h q (List.mem_range.1 hq))]
 exact congrArg some (sg_congr fun k hk => by rw [if_pos hk])
theorem alike_no {x y : Sg} (hi : i < 6) (h : (commonAt b x y i).isSome = false) : alike b x y = none := by
 unfold alike
 rw [if_neg]
 intro g
 have := List.all_eq_true.1 g i (List.mem_range.2 hi)
 rw [h] at this; cases this
theorem yes_step {P : Nat → Bool} {u : Nat} (h : ∀ q : Nat, q < u → P q = true) (hu : P u = true) : ∀ q : Nat, q < u + 1 → P q = true := fun q hq => by
 rcases Nat.lt_or_ge q u with g | g
 ·exact h q g
 rw [show q = u by omega]; exact hu
end
end Go.Vk.Mark

namespace Go.Vk
open Go
section
variable {P : Program} {E : Operand → Value} {w : World} {ty T T' : TypeId} {x y : Operand}
theorem x_indexAddr_slicek {kk : IntKind} {b o len cap s : Nat} {i : Int} {e : TypeId} (hx : E x = .slice (some ⟨b, o, none⟩) len cap) (hy : E y = .int kk i) (hu : ∀ w, (underlying T).run P w = .ok (.slice e) w)
  (hs : ∀ w, (sizeOf e).run P w = .ok s w) (hb : 0 ≤ i ∧ i < len) : X P E (.indexAddr T x y) ty w (.pointer (some ⟨b, o + i.toNat * s, none⟩)) w :=
 ⟨nofun, fun _ _ _ _ => by simp [execOp, hx, hy, Instr.indexAt, asIntOf, go_sem, hu, hs, hb, addr_add]⟩
end
section
variable {P : Program} {b : Frame} {cs : List Frame} {fin : Machine → Prop} {n : Nat} {k : List Item} {ρ : Env} {ds : List Deferred} {w w' : World} {ops : Array Oper} {m : Nat} {Y : Nat → Prop} {listed listed' : Array Bool}
 {d : Nat} {ty : TypeId} {pos : String} {af : Array Edge} {g : Option (Nat × Bool)} {v : Value} {T : TypeId} {x y : Operand}
end
section
variable {P : Program} {b : Frame} {cs : List Frame} {fin : Machine → Prop} {n : Nat} {all : Array Oper} {rest : List Oper} {k : List Item} {ρ : Env} {ds : List Deferred} {w : World}
 {d : Nat} {ty : TypeId} {pos : String} {af : Array Edge} {g : Option (Nat × Bool)} {v : Value} {T : TypeId} {x y : Operand}
theorem w_indexk {kk : IntKind} {α : Type} (L : Elt α) {K : Env → Prop} {l : List α} {i : Int} {q : α} (hg : gOk all n ρ g = true) (hr : Rd L w v l) (hx : ev n ρ x = v) (hy : ev n ρ y = .int kk i)
  (hu : ∀ w, (underlying T).run P w = .ok (.slice L.T) w) (hs : ∀ w, (sizeOf L.T).run P w = .ok L.sz w) (hb : 0 ≤ i) (hi : l[i.toNat]? = some q)
  (h : ∀ b' o', At L v i.toNat ⟨b', o', none⟩ → Row w b' o' (L.enc q) → RW P all n w K rest (upd ρ d (.pointer (some ⟨b', o', none⟩)))) :
  RW P all n w K (⟨some d, .indexAddr T x y, ty, pos, af, g⟩ :: rest) ρ := by
 obtain ⟨p, cap, rfl, hc, hrow⟩ := hr
 obtain ⟨b', o', rfl, hrw⟩ := hrow i.toNat q hi
 have hlt : i.toNat < l.length := (List.getElem?_eq_some_iff.1 hi).1
 exact w_x hg (fun w1 _ => x_indexAddr_slicek hx hy hu hs ⟨hb, by omega⟩) (h b' (o' + i.toNat * L.sz) ⟨b', o', _, _, rfl, rfl⟩ hrw)
theorem l_indexk {kk : IntKind} {α : Type} (L : Elt α) {l : List α} {i : Int} {q : α} (hg : gOk all n ρ g = true) (hr : Rd L w v l) (hx : ev n ρ x = v) (hy : ev n ρ y = .int kk i)
  (hu : ∀ w, (underlying T).run P w = .ok (.slice L.T) w) (hs : ∀ w, (sizeOf L.T).run P w = .ok L.sz w) (hb : 0 ≤ i) (hi : l[i.toNat]? = some q)
  (h : ∀ b' o', At L v i.toNat ⟨b', o', none⟩ → Row w b' o' (L.enc q) → RunL P b cs fin n all rest k (upd ρ d (.pointer (some ⟨b', o', none⟩))) ds w) :
  RunL P b cs fin n all (⟨some d, .indexAddr T x y, ty, pos, af, g⟩ :: rest) k ρ ds w := by
 obtain ⟨p, cap, rfl, hc, hrow⟩ := hr
 obtain ⟨b', o', rfl, hrw⟩ := hrow i.toNat q hi
 have hlt : i.toNat < l.length := (List.getElem?_eq_some_iff.1 hi).1
 exact l_x hg (x_indexAddr_slicek hx hy hu hs ⟨hb, by omega⟩) (h b' (o' + i.toNat * L.sz) ⟨b', o', _, _, rfl, rfl⟩ hrw)
end
end Go.Vk

namespace Go.Vk
open Go
def bs (l : List UInt8) : ByteArray := ⟨⟨l⟩⟩
theorem bs_list (l : List UInt8) : (bs l).toList = l := by rw [ByteArray.toList_eq]; rfl
def strE (T : TypeId) : Elt (List UInt8) where
 T := T
 sz := 1
 enc x := [.string (bs x)]
 zero := [.string (bs [])]
 len _ := rfl
 zlen := rfl
 one a x h := by simp at h; subst h; rfl
 pos := by decide
section
variable {P : Program} {E : Operand → Value} {w : World} {ty T T' e : TypeId} {x y : Operand} {a b : List UInt8}
theorem x_eqbs (hx : E x = .string (bs a)) (hy : E y = .string (bs b)) : X P E (.binOp .eql T x y T') ty w (.bool (decide (a = b))) w :=
 ⟨nofun, fun _ _ _ _ => by
  simp only [execOp, hx, hy, Sem.run_bind]
  rw [show (eqGuard .eql T x y (.string (bs a)) (.string (bs b))).run P w = .ok () w from rfl]
  have : (a == b) = decide (a = b) := by
   by_cases h : a = b
   ·subst h; simp
   rw [decide_eq_false h]; simpa using h
  simp [binOp, Op.stringOp, go_sem, bs_list, this]⟩
end
theorem strs_rd {w : World} {b : Nat} {T TS : TypeId} {ws : List (List UInt8)} (h : Blk w b (ws.map fun x => .string (bs x)) T) : Rd (strE TS) w (.slice (some ⟨b, 0, none⟩) ws.length ws.length) ws := by
 refine blk_rd h rfl fun i a hi j x hx => ?_
 have hj : j = 0 := by
  have := (List.getElem?_eq_some_iff.1 hx).1
  simp [strE] at this; omega
 subst hj
 rw [show 0 + i * (strE TS).sz + 0 = i by show 0 + i * 1 + 0 = i; omega, List.getElem?_map, hi]
 exact hx
theorem u8_in {a : Int} (h : 0 ≤ a ∧ a ≤ 127) : IntKind.u8.wrap a = a := by
 obtain ⟨n, rfl⟩ := Int.eq_ofNat_of_zero_le h.1
 exact wrap_nat (k := .u8) (by show n < 2 ^ 7; omega)
theorem vec_strs {w w' : World} {T : TypeId} {l : List ByteArray} {n : Nat} (hw : w' = w.alloc (.cells (l.map Value.string).toArray T (0, 0))) (hn : l.length = n) (hm : n ≤ maxLen) :
  New w w' (vec (strE T) (.slice (some ⟨w.heap.size, 0, none⟩) n n) (l.map fun b => b.data.toList)) := by
 subst hw; subst hn
 have hb := New.blk w (l.map Value.string) T
 refine ⟨.inr ⟨w.heap.size, l.length, l.map Value.string, by rw [List.length_map], by rw [List.length_map]; exact Nat.le_refl _, hm, by rw [List.length_map]; show _ = _ * 1; omega, ?_, hb.ok⟩, fun b hq => ?_⟩
 ·have : ∀ l : List ByteArray, (l.map fun b => b.data.toList).flatMap (strE T).enc = l.map Value.string := by
   intro l
   induction l with
   | nil => rfl
   | cons a l ih => rw [List.map_cons, List.flatMap_cons, ih]; rfl
  rw [this, List.length_map]
  show List.take (l.length * 1) _ = _
  rw [Nat.mul_one]
  exact List.take_of_length_le (by rw [List.length_map]; exact Nat.le_refl _)
 refine hb.bd b ?_
 obtain ⟨m, c, h⟩ := hq
 cases h
 rfl
end Go.Vk

namespace Go.Vk
open Go Go.ChangeShapes Go.WideShapes Go.RowKit

section
variable {H : Type} {enc : TypeId × Value → H} {P : Program} {W W' : World} {base : Nat} {sp : Nat → Bool} {held : Bool}

theorem trodAll_below (hl : laidOutB P = true) (hb : Below W.heap.size W W') : ∀ {ts : List TypeId} {vs : List Value} {ds : List (DataW H)} {ps : List MemPlace}, (∀ t ∈ ts, P.readableRec t = true ∧ t < P.types.size) →
  DataW.TrodAll enc P W 0 (fun _ => true) true ts vs ds ps → (∀ x ∈ ps, x.block < W.heap.size) → DataW.TrodAll enc P W' 0 (fun b => decide (b < W.heap.size)) true ts vs ds ps
 | [], [], [], _, _, h, _ => h
 | _ :: _, _ :: _, _ :: _, _, hr, ⟨p, q, h1, h2, e⟩, hs => ⟨p, q, Below.trod hl (hr _ (List.mem_cons_self ..)).1 (hr _ (List.mem_cons_self ..)).2 h1 hb (fun x hx => hs x (by rw [e]; exact List.mem_append_left _ hx)),
   trodAll_below hl hb (fun t ht => hr t (List.mem_cons_of_mem _ ht)) h2 (fun x hx => hs x (by rw [e]; exact List.mem_append_right _ hx)), e⟩

end
end Go.Vk

namespace Go.Vk
open Go
section
variable {P : Program} {E : Operand → Value} {w : World} {ty T T' e : TypeId} {x y z : Operand} {a b l : List UInt8}
theorem bs_app (a b : List UInt8) : bs a ++ bs b = bs (a ++ b) := by
 apply ByteArray.ext
 apply Array.ext'
 simp [bs, ByteArray.data_append]
theorem bs_size (a : List UInt8) : (bs a).size = a.length := rfl
theorem x_addbs (hx : E x = .string (bs a)) (hy : E y = .string (bs b)) (hl : a.length + b.length ≤ 9223372036854775807) : X P E (.binOp .add T x y T') ty w (.string (bs (a ++ b))) w :=
 ⟨nofun, fun _ _ _ _ => by
  have h1 : ¬ (9223372036854775807 < ((a.length : Int) + (b.length : Int))) := by omega
  simp only [execOp, hx, hy, Sem.run_bind]
  rw [show (eqGuard .add T x y (.string (bs a)) (.string (bs b))).run P w = .ok () w from rfl]
  simp [binOp, Op.stringOp, go_sem, bs_size, h1, bs_app]⟩
theorem x_nebs (hx : E x = .string (bs a)) (hy : E y = .string (bs b)) : X P E (.binOp .neq T x y T') ty w (.bool (!decide (a = b))) w :=
 ⟨nofun, fun _ _ _ _ => by
  simp only [execOp, hx, hy, Sem.run_bind]
  rw [show (eqGuard .neq T x y (.string (bs a)) (.string (bs b))).run P w = .ok () w from rfl]
  have : (a == b) = decide (a = b) := by
   by_cases h : a = b
   ·subst h; simp
   rw [decide_eq_false h]; simpa using h
  simp [binOp, Op.stringOp, go_sem, bs_list, this]⟩
theorem x_lenbs {A : TypeId} (hx : E x = .string (bs a)) (hu : ∀ w, (underlying A).run P w = .ok .string w) : X P E (.call ⟨.builtin .len, #[x], #[A]⟩) ty w (.int .i64 (a.length : Nat)) w :=
 ⟨nofun, fun _ _ _ _ => by simp [execOp, hx, resolve, invoke, builtin, Builtin.len_, go_sem, hu, goInt, bs_size]⟩
theorem x_idxbs {k : IntKind} {i : Nat} {c : UInt8} (hx : E x = .string (bs a)) (hy : E y = .int k (i : Int)) (hu : ∀ w, (underlying T).run P w = .ok .string w) (hc : a[i]? = some c) : X P E (.index T x y) ty w (.int .u8 (c.toNat : Int)) w := by
 obtain ⟨hi, rfl⟩ := List.getElem?_eq_some_iff.1 hc
 have h := x_idxstr (P := P) (w := w) (ty := ty) hx hy hu (by omega) (by rw [Int.toNat_natCast, bs_size]; exact hi)
 have e : (bs a).data.getD (i : Int).toNat 0 = a[i] := by
  rw [Int.toNat_natCast, Array.getD_eq_getD_getElem?]
  have h2 : (bs a).data[i]? = a[i]? := List.getElem?_toArray ..
  rw [h2, hc]; rfl
 rw [e] at h
 exact h
theorem bs_extract (a : List UInt8) (p q : Nat) : (bs a).extract p q = bs ((a.take q).drop p) := by
 apply ByteArray.ext
 apply Array.ext'
 simp [bs, ByteArray.data_extract, List.drop_take]
theorem run_boundN {v : Value} {m : Nat} {lim : Nat} {cd : BoundsCode} (w : World) (hv : v = .int .i64 (m : Int)) (hm : m ≤ lim) : (Instr.sliceBound v lim cd).run P w = .ok m w := by
 subst hv
 simp only [Instr.sliceBound, asIntOf, Sem.run_bind, Sem.run_pure, Result.andThen_ok]
 rw [if_pos (by omega)]
 rfl
theorem x_cutbs {p q : Nat} {y z : Operand} (hx : E x = .string (bs a)) (hu : ∀ w, (underlying T).run P w = .ok .string w) (hy : E y = .int .i64 (p : Int)) (hz : E z = .int .i64 (q : Int)) (hb : p ≤ q ∧ q ≤ a.length) :
  X P E (.slice T x (some y) (some z) none) ty w (.string (bs ((a.take q).drop p))) w := by
 refine ⟨nofun, fun _ _ _ _ => ?_⟩
 have hsb : ∀ w, (Instr.sliceBounds false a.length a.length (some (E y)) (some (E z)) none).run P w = .ok (p, q, a.length) w := by
  intro w
  unfold Instr.sliceBounds
  simp only [Sem.run_bind, Sem.run_pure, Result.andThen_ok, Option.isSome_none, Bool.false_eq_true, if_false, run_boundN w hz hb.2, run_boundN w hy hb.1]
 simp only [execOp, Instr.sliceAt, Option.map_none, Option.map_some, hx, Sem.run_bind, hu, Result.andThen_ok, Instr.slice, bs_size, hsb, Sem.run_pure, bs_extract, Option.isSome_none, Bool.false_eq_true, if_false]
theorem x_tailbs {p : Nat} {y : Operand} (hx : E x = .string (bs a)) (hu : ∀ w, (underlying T).run P w = .ok .string w) (hy : E y = .int .i64 (p : Int)) (hb : p ≤ a.length) :
  X P E (.slice T x (some y) none none) ty w (.string (bs (a.drop p))) w := by
 refine ⟨nofun, fun _ _ _ _ => ?_⟩
 have hsb : ∀ w, (Instr.sliceBounds false a.length a.length (some (E y)) none none).run P w = .ok (p, a.length, a.length) w := by
  intro w
  unfold Instr.sliceBounds
  simp only [Sem.run_bind, Sem.run_pure, Result.andThen_ok, Option.isSome_none, Bool.false_eq_true, if_false, run_boundN w hy hb]
 simp only [execOp, Instr.sliceAt, Option.map_none, Option.map_some, hx, Sem.run_bind, hu, Result.andThen_ok, Instr.slice, bs_size, hsb, Sem.run_pure, bs_extract, Option.isSome_none, Bool.false_eq_true, if_false, List.take_length]
theorem x_convbs {S : TypeId} {v : Value} {eb : Elt Int} (hx : E x = v) (hr : Rd eb w v (l.map fun c => (c.toNat : Int))) (he : ∀ c, eb.enc c = [.int .u8 c]) (hne : l ≠ []) (hs : P.underlying S = some (.slice e)) (hu : P.underlying e = some (.int .u8)) (hd : P.underlying T = some .string) : X P E (.convert S T x) ty w (.string (bs l)) w := by
 refine ⟨nofun, fun _ _ _ _ => ?_⟩
 have hsz : eb.sz = 1 := by rw [← eb.len 0, he]; rfl
 obtain ⟨a, cap, rfl, hc, hrow⟩ := hr
 have hl0 : 0 < l.length := List.length_pos_iff.2 hne
 obtain ⟨b0, o0, rfl, _⟩ := hrow 0 _ (by rw [List.getElem?_map, List.getElem?_eq_getElem hl0]; rfl)
 have hh := run_convert_bytes_back (P := P) w S T e ⟨b0, o0, none⟩ cap l hs hu hd (fun j hj => by
  obtain ⟨b1, o1, h1, hr⟩ := hrow j _ (by rw [List.getElem?_map, List.getElem?_eq_getElem hj]; rfl)
  cases h1
  have := hr 0 (.int .u8 (l[j].toNat : Int)) (by rw [he]; rfl)
  rw [hsz, Nat.mul_one, Nat.add_zero] at this
  rw [addr_add]; exact this)
 rw [List.length_map] at hx
 simp only [execOp, hx, Sem.run_bind, hh, Result.andThen_ok, Sem.run_pure]
 rfl
end
end Go.Vk
