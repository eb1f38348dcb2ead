/- Nets, as plain mathematics: no program in sight. -/
import Derived.Test.YtddapgjjndbejaaVkNest
namespace Go.Vk
open Go

structure Arc where
  src : Int
  dst : Int
  lo : Int
  hi : Int
  loBy : Int
  hiBy : Int
deriving DecidableEq

def Arc.enc (a : Arc) : List Value := [.int .i64 a.src, .int .i64 a.dst, .int .i64 a.lo, .int .i64 a.hi, .int .i64 a.loBy, .int .i64 a.hiBy]

def arcE (T : TypeId) : Elt Arc where
  T := T
  sz := 6
  enc := Arc.enc
  zero := (⟨0, 0, 0, 0, 0, 0⟩ : Arc).enc
  len _ := rfl
  zlen := rfl
  one a x h := by simp [Arc.enc] at h; rcases h with h | h | h | h | h | h <;> subst h <;> rfl
  pos := by decide

/-- One unit more, or less, along an arc. -/
structure Stp where
  arc : Int
  back : Bool
  src : Int
  dst : Int
  cost : Int
deriving DecidableEq

def Stp.enc (s : Stp) : List Value := [.int .i64 s.arc, .bool s.back, .int .i64 s.src, .int .i64 s.dst, .int .i64 s.cost]

def stpE (T : TypeId) : Elt Stp where
  T := T
  sz := 5
  enc := Stp.enc
  zero := (⟨0, false, 0, 0, 0⟩ : Stp).enc
  len _ := rfl
  zlen := rfl
  one a x h := by simp [Stp.enc] at h; rcases h with h | h | h | h | h <;> subst h <;> rfl
  pos := by decide

/-- The cells of a net with amounts. -/
def carC (N : Int) (va vx vw : Value) (m p : Nat → Int) : List Value := [.int .i64 N, va, vx, vw] ++ (tab 1000 m ++ (tab 1000 p ++ []))
section
variable {N : Int} {va vx vw : Value} {m p : Nat → Int} {i o : Nat} {x : Int}
theorem carm_get (ho : 4 = o) (h : i < 1000) : (carC N va vx vw m p)[o + i * 1]? = some (.int .i64 (m i)) := seg_get ho h
theorem carm_set (ho : 4 = o) (h : i < 1000) : (carC N va vx vw m p).set (o + i * 1) (.int .i64 x) = carC N va vx vw (upf m i x) p := seg_set ho h
theorem carm_lt (ho : 4 = o) (h : i < 1000) : o + i * 1 < (carC N va vx vw m p).length := seg_lt ho h
theorem carp_eq : carC N va vx vw m p = ([.int .i64 N, va, vx, vw] ++ tab 1000 m) ++ (tab 1000 p ++ []) := by rw [carC, List.append_assoc]
theorem carp_len : ([.int .i64 N, va, vx, vw] ++ tab 1000 m).length = 1004 := by rw [List.length_append, tab_length]; rfl
theorem carp_get (ho : 1004 = o) (h : i < 1000) : (carC N va vx vw m p)[o + i * 1]? = some (.int .i64 (p i)) := by rw [carp_eq]; exact seg_get (carp_len.trans ho) h
theorem carp_set (ho : 1004 = o) (h : i < 1000) : (carC N va vx vw m p).set (o + i * 1) (.int .i64 x) = carC N va vx vw m (upf p i x) := by rw [carp_eq, carp_eq]; exact seg_set (carp_len.trans ho) h
theorem carp_lt (ho : 1004 = o) (h : i < 1000) : o + i * 1 < (carC N va vx vw m p).length := by rw [carp_eq]; exact seg_lt (carp_len.trans ho) h
end

namespace Flow

/-- Is it an arc of a net of N nodes? -/
def okArc (N : Int) (a : Arc) : Bool :=
  decide (0 ≤ a.src ∧ a.src < N ∧ 0 ≤ a.dst ∧ a.dst < N ∧ 0 ≤ a.lo ∧ a.lo ≤ 1000000 ∧ 0 ≤ a.hi ∧ a.hi ≤ 1000000 ∧ 0 ≤ a.loBy ∧ a.loBy ≤ 1000000 ∧ 0 ≤ a.hiBy ∧ a.hiBy ≤ 1000000)

theorem okArc_iff {N : Int} {a : Arc} : okArc N a = true ↔ (0 ≤ a.src ∧ a.src < N ∧ 0 ≤ a.dst ∧ a.dst < N ∧ 0 ≤ a.lo ∧ a.lo ≤ 1000000 ∧ 0 ≤ a.hi ∧ a.hi ≤ 1000000 ∧ 0 ≤ a.loBy ∧ a.loBy ≤ 1000000 ∧ 0 ≤ a.hiBy ∧ a.hiBy ≤ 1000000) := by
  simp [okArc]

/-- The error of a net: 2 'limit', 1 'arg', 0 none. -/
def chk (N : Int) (arcs : List Arc) : Int :=
  if 1000 < N ∨ 4000 < arcs.length then 2 else if N < 1 ∨ arcs.any (fun a => !okArc N a) = true then 1 else 0

structure Valid (N : Int) (arcs : List Arc) : Prop where
  pos : 1 ≤ N
  max : N ≤ 1000
  len : arcs.length ≤ 4000
  ok : ∀ a ∈ arcs, okArc N a = true

theorem chk_zero {N : Int} {arcs : List Arc} : chk N arcs = 0 ↔ Valid N arcs := by
  unfold chk
  constructor
  · intro h
    split at h
    · cases h
    · rename_i h1
      split at h
      · cases h
      · rename_i h2
        simp only [not_or, List.any_eq_true, not_exists, not_and, Bool.not_eq_true', Bool.not_eq_false] at h1 h2
        exact ⟨by omega, by omega, by omega, h2.2⟩
  · intro h
    rw [if_neg (by have := h.max; have := h.len; omega), if_neg]
    simp only [not_or, List.any_eq_true, not_exists, not_and, Bool.not_eq_true', Bool.not_eq_false]
    exact ⟨by have := h.pos; omega, h.ok⟩

/-- A list of a length whose numbers are from a to b. -/
def row (l : List Int) (n a b : Int) : Bool := decide ((l.length : Int) = n) && !l.any fun x => !decide (a ≤ x ∧ x ≤ b)

theorem row_iff {l : List Int} {n a b : Int} : row l n a b = true ↔ (l.length : Int) = n ∧ ∀ x ∈ l, a ≤ x ∧ x ≤ b := by
  simp [row]

/-- The first place at which p holds; -1: none. -/
def idx {α : Type} (p : α → Bool) (l : List α) : Int := match l.findIdx? p with | some i => (i : Int) | none => -1

theorem idx_ge {α : Type} (p : α → Bool) (l : List α) : (0 ≤ idx p l) ↔ l.any p = true := by
  unfold idx
  cases h : l.findIdx? p with
  | none => simp [List.findIdx?_eq_none_iff] at h; simp; exact h
  | some i =>
    have := List.findIdx?_eq_some_iff_getElem.1 h
    obtain ⟨h1, h2, _⟩ := this
    simp only [Int.natCast_nonneg, true_iff, List.any_eq_true]
    exact ⟨_, List.getElem_mem h1, h2⟩

theorem idx_none {α : Type} {p : α → Bool} {l : List α} (h : ∀ a ∈ l, p a = false) : idx p l = -1 := by
  unfold idx
  rw [List.findIdx?_eq_none_iff.2 h]

theorem idx_at {α : Type} {p : α → Bool} {l : List α} {i : Nat} {a : α} (ha : l[i]? = some a) (hp : p a = true) (h : ∀ x ∈ l.take i, p x = false) : idx p l = i := by
  unfold idx
  obtain ⟨hi, he⟩ := List.getElem?_eq_some_iff.1 ha
  have : l.findIdx? p = some i := by
    rw [List.findIdx?_eq_some_iff_getElem]
    refine ⟨hi, by rw [he]; exact hp, fun j hj => ?_⟩
    have : l[j] ∈ l.take i := by
      rw [List.mem_take_iff_getElem]
      exact ⟨j, by omega, rfl⟩
    simp [h _ this]
  rw [this]

/-- What goes in less what goes out at a node. -/
def ex : List Arc → List Int → Nat → Int
  | a :: as, y :: ys, v => (if a.dst = v then y else 0) - (if a.src = v then y else 0) + ex as ys v
  | _, _, _ => 0

theorem ex_snoc : ∀ (as : List Arc) (ys : List Int) (a : Arc) (y : Int) (v : Nat), as.length = ys.length → ex (as ++ [a]) (ys ++ [y]) v = ex as ys v + ((if a.dst = v then y else 0) - (if a.src = v then y else 0)) := by
  intro as
  induction as with
  | nil => intro ys a y v h; cases ys with
    | nil => simp [ex]
    | cons => simp at h
  | cons b as ih =>
    intro ys a y v h
    cases ys with
    | nil => simp at h
    | cons z ys =>
      simp only [List.cons_append, ex, ih ys a y v (by simpa using h)]
      omega

theorem take_snoc {α : Type} (l : List α) (i : Nat) (h : i < l.length) : l.take (i + 1) = l.take i ++ [l[i]] := by
  rw [List.take_succ_eq_append_getElem h]

theorem ex_take (as : List Arc) (ys : List Int) (i : Nat) (v : Nat) (h1 : i < as.length) (h2 : i < ys.length) :
    ex (as.take (i + 1)) (ys.take (i + 1)) v = ex (as.take i) (ys.take i) v + ((if as[i].dst = v then ys[i] else 0) - (if as[i].src = v then ys[i] else 0)) := by
  rw [take_snoc as i h1, take_snoc ys i h2, ex_snoc]
  simp; omega

theorem ex_bd : ∀ (as : List Arc) (ys : List Int) (v : Nat) (B : Int), 0 ≤ B → (∀ y ∈ ys, 0 ≤ y ∧ y ≤ B) → -(B * ys.length) ≤ ex as ys v ∧ ex as ys v ≤ B * ys.length := by
  intro as
  induction as with
  | nil => intro ys v B hB h; simp only [ex]; have : 0 ≤ B * (ys.length : Int) := Int.mul_nonneg hB (by omega); omega
  | cons a as ih =>
    intro ys v B hB h
    cases ys with
    | nil => simp [ex]
    | cons y ys =>
      have h1 := ih ys v B hB (fun z hz => h z (List.mem_cons_of_mem _ hz))
      have h2 := h y (List.mem_cons_self ..)
      have e : B * (((y :: ys).length : Nat) : Int) = B * (ys.length : Int) + B := by
        rw [List.length_cons, Int.natCast_add, Int.mul_add]; simp
      simp only [ex]
      rw [e]
      split <;> split <;> omega

/-- Each amount lies between the bounds of its arc. -/
def within : List Arc → List Int → Bool
  | a :: as, y :: ys => decide (a.lo ≤ y ∧ y ≤ a.hi) && within as ys
  | _, _ => true

theorem within_iff : ∀ (as : List Arc) (ys : List Int), as.length = ys.length → (within as ys = true ↔ ∀ (i : Nat) (a : Arc) (y : Int), as[i]? = some a → ys[i]? = some y → a.lo ≤ y ∧ y ≤ a.hi) := by
  intro as
  induction as with
  | nil => intro ys _; simp [within]
  | cons a as ih =>
    intro ys h
    cases ys with
    | nil => simp at h
    | cons y ys =>
      simp only [within, Bool.and_eq_true, decide_eq_true_eq, ih ys (by simpa using h)]
      constructor
      · rintro ⟨h1, h2⟩ i b z hb hz
        cases i with
        | zero => simp at hb hz; subst hb; subst hz; exact h1
        | succ i => exact h2 i b z (by simpa using hb) (by simpa using hz)
      · intro h
        exact ⟨h 0 a y rfl rfl, fun i b z hb hz => h (i + 1) b z (by simpa using hb) (by simpa using hz)⟩

/-- The amounts are a circulation, as far as the first n nodes show. -/
def kept (n : Nat) (as : List Arc) (ys : List Int) : Bool := within as ys && (List.range n).all fun v => ex as ys v == 0

theorem ex_out {N : Int} : ∀ (as : List Arc) (ys : List Int) (v : Nat), (∀ a ∈ as, okArc N a = true) → N ≤ v → ex as ys v = 0 := by
  intro as
  induction as with
  | nil => intro ys v _ _; simp [ex]
  | cons a as ih =>
    intro ys v h hv
    cases ys with
    | nil => simp [ex]
    | cons y ys =>
      have h1 := okArc_iff.1 (h a (List.mem_cons_self ..))
      simp only [ex, ih ys v (fun b hb => h b (List.mem_cons_of_mem _ hb)) hv]
      rw [if_neg (by omega), if_neg (by omega)]
      rfl

theorem kept_big {N : Int} {as : List Arc} {ys : List Int} {n : Nat} (h : ∀ a ∈ as, okArc N a = true) (hn : N ≤ n) : kept n as ys = kept N.toNat as ys := by
  simp only [kept]
  congr 1
  rw [Bool.eq_iff_iff, List.all_eq_true, List.all_eq_true]
  constructor
  · intro h1 v hv
    exact h1 v (List.mem_range.2 (by have := List.mem_range.1 hv; omega))
  · intro h1 v hv
    by_cases hv' : v < N.toNat
    · exact h1 v (List.mem_range.2 hv')
    · rw [ex_out as ys v h (by omega)]; rfl

/-! ### steps of the loops -/

theorem within_snoc : ∀ (as : List Arc) (ys : List Int) (a : Arc) (y : Int), as.length = ys.length → within (as ++ [a]) (ys ++ [y]) = (within as ys && decide (a.lo ≤ y ∧ y ≤ a.hi)) := by
  intro as
  induction as with
  | nil => intro ys a y h; cases ys with
    | nil => simp [within]
    | cons => simp at h
  | cons b as ih =>
    intro ys a y h
    cases ys with
    | nil => simp at h
    | cons z ys => simp only [List.cons_append, within, ih ys a y (by simpa using h), Bool.and_assoc]

theorem within_take {as : List Arc} {ys : List Int} {i : Nat} {a : Arc} {y : Int} (ha : as[i]? = some a) (hy : ys[i]? = some y) :
    within (as.take (i + 1)) (ys.take (i + 1)) = (within (as.take i) (ys.take i) && decide (a.lo ≤ y ∧ y ≤ a.hi)) := by
  obtain ⟨h1, rfl⟩ := List.getElem?_eq_some_iff.1 ha
  obtain ⟨h2, rfl⟩ := List.getElem?_eq_some_iff.1 hy
  rw [take_snoc as i h1, take_snoc ys i h2, within_snoc]
  simp; omega

theorem within_ge {as : List Arc} {ys : List Int} {i : Nat} (h : within (as.take i) (ys.take i) = false) : within as ys = false := by
  induction as generalizing ys i with
  | nil => simp [within] at h
  | cons a as ih =>
    cases ys with
    | nil => cases i <;> simp [within] at h
    | cons y ys =>
      cases i with
      | zero => simp [within] at h
      | succ i =>
        simp only [List.take_succ_cons, within, Bool.and_eq_false_iff] at h ⊢
        rcases h with h | h
        · exact .inl h
        · exact .inr (ih h)

/-- Amounts of a net. -/
structure Amts (arcs : List Arc) (x : List Int) : Prop where
  len : x.length = arcs.length
  bd : ∀ y ∈ x, 0 ≤ y ∧ y ≤ 1000000

theorem row_amts {arcs : List Arc} {x : List Int} : row x arcs.length 0 1000000 = true ↔ Amts arcs x := by
  rw [row_iff]; exact ⟨fun h => ⟨by omega, h.2⟩, fun h => ⟨by have := h.len; omega, h.bd⟩⟩

theorem Valid.at {N : Int} {arcs : List Arc} (h : Valid N arcs) {i : Nat} {a : Arc} (ha : arcs[i]? = some a) :
    0 ≤ a.src ∧ a.src < N ∧ 0 ≤ a.dst ∧ a.dst < N ∧ 0 ≤ a.lo ∧ a.lo ≤ 1000000 ∧ 0 ≤ a.hi ∧ a.hi ≤ 1000000 ∧ 0 ≤ a.loBy ∧ a.loBy ≤ 1000000 ∧ 0 ≤ a.hiBy ∧ a.hiBy ≤ 1000000 :=
  okArc_iff.1 (h.ok a (List.mem_of_getElem? ha))
theorem Amts.at {arcs : List Arc} {x : List Int} (h : Amts arcs x) {i : Nat} {y : Int} (hy : x[i]? = some y) : 0 ≤ y ∧ y ≤ 1000000 := h.bd y (List.mem_of_getElem? hy)

theorem ex_bd_take {N : Int} {arcs : List Arc} {x : List Int} (hV : Valid N arcs) (hx : Amts arcs x) (i v : Nat) :
    -4000000000 ≤ ex (arcs.take i) (x.take i) v ∧ ex (arcs.take i) (x.take i) v ≤ 4000000000 := by
  have h := ex_bd (arcs.take i) (x.take i) v 1000000 (by omega) (fun y hy => hx.bd y (List.mem_of_mem_take hy))
  have h1 : (x.take i).length ≤ 4000 := by
    have := hV.len; have := hx.len
    rw [List.length_take]; omega
  omega

theorem ex_step {as : List Arc} {ys : List Int} {i : Nat} {a : Arc} {y : Int} (ha : as[i]? = some a) (hy : ys[i]? = some y) (hd : 0 ≤ a.dst) (hs : 0 ≤ a.src) {f : Nat → Int} (hf : f = ex (as.take i) (ys.take i)) :
    upf (upf f a.dst.toNat (f a.dst.toNat + y)) a.src.toNat (upf f a.dst.toNat (f a.dst.toNat + y) a.src.toNat - y) = ex (as.take (i + 1)) (ys.take (i + 1)) := by
  obtain ⟨h1, rfl⟩ := List.getElem?_eq_some_iff.1 ha
  obtain ⟨h2, rfl⟩ := List.getElem?_eq_some_iff.1 hy
  subst hf
  funext v
  rw [ex_take as ys i v h1 h2]
  have e1 : (as[i].dst = (v : Int)) ↔ v = as[i].dst.toNat := by omega
  have e2 : (as[i].src = (v : Int)) ↔ v = as[i].src.toNat := by omega
  simp only [upf, e1, e2]
  by_cases c1 : v = as[i].dst.toNat <;> by_cases c2 : v = as[i].src.toNat
  · have c3 : as[i].src.toNat = as[i].dst.toNat := by omega
    simp only [c1, c3, if_true]; omega
  · have c3 : as[i].dst.toNat ≠ as[i].src.toNat := by omega
    simp only [c1, c3, if_true, if_false]; omega
  · have c3 : as[i].src.toNat ≠ as[i].dst.toNat := by omega
    simp only [c2, c3, if_true, if_false]; omega
  · simp only [c1, c2, if_false]; omega

theorem ex_nil (v : Nat) : ex [] [] v = 0 := rfl
theorem ex_zero (as : List Arc) (ys : List Int) : ex (as.take 0) (ys.take 0) = fun _ => 0 := by
  funext v; simp [ex]

/-! ### sums -/

/-- A list's number at a place (0 beyond its end). -/
def nth (l : List Int) (i : Nat) : Int := l.getD i 0
theorem nth_get {l : List Int} {i : Nat} (h : i < l.length) : l[i]? = some (nth l i) := by
  simp [nth, List.getD_eq_getElem?_getD, h]
theorem nth_of {l : List Int} {i : Nat} {x : Int} (h : l[i]? = some x) : nth l i = x := by
  simp [nth, List.getD_eq_getElem?_getD, h]

theorem mul_bd {r h A B : Int} (h1 : -A ≤ r ∧ r ≤ A) (h2 : 0 ≤ h ∧ h ≤ B) (hA : 0 ≤ A) : -(A * B) ≤ r * h ∧ r * h ≤ A * B := by
  have e1 : r * h ≤ A * h := Int.mul_le_mul_of_nonneg_right h1.2 h2.1
  have e2 : -A * h ≤ r * h := Int.mul_le_mul_of_nonneg_right h1.1 h2.1
  have e3 : A * h ≤ A * B := Int.mul_le_mul_of_nonneg_left h2.2 hA
  have e4 : -A * h = -(A * h) := Int.neg_mul ..
  omega

/-- The sum of products. -/
def dot : List Int → List Int → Int
  | y :: ys, z :: zs => y * z + dot ys zs
  | _, _ => 0
theorem dot_snoc : ∀ (ys zs : List Int) (y z : Int), ys.length = zs.length → dot (ys ++ [y]) (zs ++ [z]) = dot ys zs + y * z := by
  intro ys
  induction ys with
  | nil => intro zs y z h; cases zs with
    | nil => simp [dot]
    | cons => simp at h
  | cons a ys ih =>
    intro zs y z h
    cases zs with
    | nil => simp at h
    | cons b zs => simp only [List.cons_append, dot, ih zs y z (by simpa using h)]; omega
theorem dot_take {ys zs : List Int} {i : Nat} {y z : Int} (hy : ys[i]? = some y) (hz : zs[i]? = some z) : dot (ys.take (i + 1)) (zs.take (i + 1)) = dot (ys.take i) (zs.take i) + y * z := by
  obtain ⟨h1, rfl⟩ := List.getElem?_eq_some_iff.1 hy
  obtain ⟨h2, rfl⟩ := List.getElem?_eq_some_iff.1 hz
  rw [take_snoc ys i h1, take_snoc zs i h2, dot_snoc]
  simp; omega
theorem dot_bd : ∀ (ys zs : List Int) (A B : Int), 0 ≤ A → 0 ≤ B → (∀ y ∈ ys, -A ≤ y ∧ y ≤ A) → (∀ z ∈ zs, 0 ≤ z ∧ z ≤ B) → -(A * B * ys.length) ≤ dot ys zs ∧ dot ys zs ≤ A * B * ys.length := by
  intro ys
  induction ys with
  | nil => intro zs A B _ _ _ _; simp [dot]
  | cons y ys ih =>
    intro zs A B hA hB h1 h2
    have hAB : 0 ≤ A * B := Int.mul_nonneg hA hB
    have e : A * B * (((y :: ys).length : Nat) : Int) = A * B * (ys.length : Int) + A * B := by
      rw [List.length_cons, Int.natCast_add, Int.mul_add]; simp
    cases zs with
    | nil => simp only [dot]; have : 0 ≤ A * B * (((y :: ys).length : Nat) : Int) := Int.mul_nonneg hAB (by omega); omega
    | cons z zs =>
      have h3 := ih zs A B hA hB (fun q hq => h1 q (List.mem_cons_of_mem _ hq)) (fun q hq => h2 q (List.mem_cons_of_mem _ hq))
      have h4 := mul_bd (h1 y (List.mem_cons_self ..)) (h2 z (List.mem_cons_self ..)) hA
      simp only [dot]
      rw [e]
      omega

/-- Weights of a net. -/
structure Wts (arcs : List Arc) (x : List Int) : Prop where
  len : x.length = arcs.length
  bd : ∀ y ∈ x, -1000 ≤ y ∧ y ≤ 1000
/-- Potentials of a net. -/
structure Pts (N : Int) (x : List Int) : Prop where
  len : (x.length : Int) = N
  bd : ∀ y ∈ x, -10000000 ≤ y ∧ y ≤ 10000000
theorem row_wts {arcs : List Arc} {x : List Int} : row x arcs.length (-1000) 1000 = true ↔ Wts arcs x := by
  rw [row_iff]; exact ⟨fun h => ⟨by omega, h.2⟩, fun h => ⟨by have := h.len; omega, h.bd⟩⟩
theorem row_pts {N : Int} {x : List Int} : row x N (-10000000) 10000000 = true ↔ Pts N x := by
  rw [row_iff]; exact ⟨fun h => ⟨h.1, h.2⟩, fun h => ⟨h.len, h.bd⟩⟩
theorem Wts.at {arcs : List Arc} {x : List Int} (h : Wts arcs x) {i : Nat} {y : Int} (hy : x[i]? = some y) : -1000 ≤ y ∧ y ≤ 1000 := h.bd y (List.mem_of_getElem? hy)
theorem Pts.at {N : Int} {x : List Int} (h : Pts N x) (i : Nat) : -10000000 ≤ nth x i ∧ nth x i ≤ 10000000 := by
  by_cases hi : i < x.length
  · exact h.bd _ (List.mem_of_getElem? (nth_get hi))
  · simp [nth, List.getD_eq_getElem?_getD, List.getElem?_eq_none (Nat.le_of_not_lt hi)]

theorem dot_bd_take {ys zs : List Int} (hl : ys.length ≤ 4000) (h1 : ∀ y ∈ ys, -1000 ≤ y ∧ y ≤ 1000) (h2 : ∀ z ∈ zs, 0 ≤ z ∧ z ≤ 1000000) (i : Nat) :
    -4000000000000 ≤ dot (ys.take i) (zs.take i) ∧ dot (ys.take i) (zs.take i) ≤ 4000000000000 := by
  have h := dot_bd (ys.take i) (zs.take i) 1000 1000000 (by omega) (by omega) (fun y hy => h1 y (List.mem_of_mem_take hy)) (fun y hy => h2 y (List.mem_of_mem_take hy))
  have h3 : (ys.take i).length ≤ 4000 := by rw [List.length_take]; omega
  omega

/-- What an arc's weight is with potentials. -/
def rst (p : List Int) (a : Arc) (y : Int) : Int := y + nth p a.src.toNat - nth p a.dst.toNat
/-- What an arc adds to the bound. -/
def part (p : List Int) (a : Arc) (y : Int) : Int := if 0 < rst p a y then rst p a y * a.hi else if rst p a y < 0 then rst p a y * a.lo else 0
/-- The bound that potentials show. -/
def bnd (p : List Int) : List Arc → List Int → Int
  | a :: as, y :: ys => part p a y + bnd p as ys
  | _, _ => 0
/-- The ends that the bound uses. -/
def told1 (p : List Int) (a : Arc) (y : Int) : List (Arc × Bool) := if 0 < rst p a y then [(a, true)] else if rst p a y < 0 then [(a, false)] else []
def told (p : List Int) : List Arc → List Int → List (Arc × Bool)
  | a :: as, y :: ys => told1 p a y ++ told p as ys
  | _, _ => []

theorem bnd_snoc {p : List Int} : ∀ (as : List Arc) (ys : List Int) (a : Arc) (y : Int), as.length = ys.length → bnd p (as ++ [a]) (ys ++ [y]) = bnd p as ys + part p a y := by
  intro as
  induction as with
  | nil => intro ys a y h; cases ys with
    | nil => simp [bnd]
    | cons => simp at h
  | cons b as ih =>
    intro ys a y h
    cases ys with
    | nil => simp at h
    | cons z ys => simp only [List.cons_append, bnd, ih ys a y (by simpa using h)]; omega
theorem told_snoc {p : List Int} : ∀ (as : List Arc) (ys : List Int) (a : Arc) (y : Int), as.length = ys.length → told p (as ++ [a]) (ys ++ [y]) = told p as ys ++ told1 p a y := by
  intro as
  induction as with
  | nil => intro ys a y h; cases ys with
    | nil => simp [told]
    | cons => simp at h
  | cons b as ih =>
    intro ys a y h
    cases ys with
    | nil => simp at h
    | cons z ys => simp only [List.cons_append, told, ih ys a y (by simpa using h), List.append_assoc]
theorem bnd_take {p : List Int} {as : List Arc} {ys : List Int} {i : Nat} {a : Arc} {y : Int} (ha : as[i]? = some a) (hy : ys[i]? = some y) : bnd p (as.take (i + 1)) (ys.take (i + 1)) = bnd p (as.take i) (ys.take i) + part p a y := by
  obtain ⟨h1, rfl⟩ := List.getElem?_eq_some_iff.1 ha
  obtain ⟨h2, rfl⟩ := List.getElem?_eq_some_iff.1 hy
  rw [take_snoc as i h1, take_snoc ys i h2, bnd_snoc]
  simp; omega
theorem told_take {p : List Int} {as : List Arc} {ys : List Int} {i : Nat} {a : Arc} {y : Int} (ha : as[i]? = some a) (hy : ys[i]? = some y) : told p (as.take (i + 1)) (ys.take (i + 1)) = told p (as.take i) (ys.take i) ++ told1 p a y := by
  obtain ⟨h1, rfl⟩ := List.getElem?_eq_some_iff.1 ha
  obtain ⟨h2, rfl⟩ := List.getElem?_eq_some_iff.1 hy
  rw [take_snoc as i h1, take_snoc ys i h2, told_snoc]
  simp; omega
theorem part_bd {p : List Int} {a : Arc} {y r : Int} (hr : r = rst p a y) (h1 : -20001000 ≤ r ∧ r ≤ 20001000) (h2 : 0 ≤ a.lo ∧ a.lo ≤ 1000000) (h3 : 0 ≤ a.hi ∧ a.hi ≤ 1000000) :
    (-20001000000000 ≤ r * a.hi ∧ r * a.hi ≤ 20001000000000) ∧ (-20001000000000 ≤ r * a.lo ∧ r * a.lo ≤ 20001000000000) ∧ -20001000000000 ≤ part p a y ∧ part p a y ≤ 20001000000000 := by
  have e1 := mul_bd (A := 20001000) (B := 1000000) (by omega : -20001000 ≤ r ∧ r ≤ 20001000) h3 (by omega)
  have e2 := mul_bd (A := 20001000) (B := 1000000) (by omega : -20001000 ≤ r ∧ r ≤ 20001000) h2 (by omega)
  refine ⟨by omega, by omega, ?_⟩
  unfold part
  rw [← hr]
  split
  · omega
  · split <;> omega
theorem rst_bd {N : Int} {p : List Int} (hp : Pts N p) {a : Arc} {y : Int} (hy : -1000 ≤ y ∧ y ≤ 1000) : -20001000 ≤ rst p a y ∧ rst p a y ≤ 20001000 := by
  have h1 := hp.at a.src.toNat
  have h2 := hp.at a.dst.toNat
  unfold rst; omega
theorem bnd_bd {p : List Int} (B : Int) (hB : 0 ≤ B) : ∀ (as : List Arc) (ys : List Int), (∀ (i : Nat) (a : Arc) (y : Int), as[i]? = some a → ys[i]? = some y → -B ≤ part p a y ∧ part p a y ≤ B) → -(B * as.length) ≤ bnd p as ys ∧ bnd p as ys ≤ B * as.length := by
  intro as
  induction as with
  | nil => intro ys _; simp [bnd]
  | cons a as ih =>
    intro ys h
    have e : B * (((a :: as).length : Nat) : Int) = B * (as.length : Int) + B := by
      rw [List.length_cons, Int.natCast_add, Int.mul_add]; simp
    cases ys with
    | nil => simp only [bnd]; have : 0 ≤ B * (((a :: as).length : Nat) : Int) := Int.mul_nonneg hB (by omega); omega
    | cons y ys =>
      have h1 := ih ys fun i b z hb hz => h (i + 1) b z (by simpa using hb) (by simpa using hz)
      have h2 := h 0 a y rfl rfl
      simp only [bnd]
      rw [e]; omega
theorem bnd_bd_take {N : Int} {arcs : List Arc} {x p : List Int} (hV : Valid N arcs) (hx : Wts arcs x) (hp : Pts N p) (i : Nat) :
    -80004000000000000 ≤ bnd p (arcs.take i) (x.take i) ∧ bnd p (arcs.take i) (x.take i) ≤ 80004000000000000 := by
  have h := bnd_bd (p := p) 20001000000000 (by omega) (arcs.take i) (x.take i) fun j a y ha hy => by
    have ha' : arcs[j]? = some a := by rw [List.getElem?_take] at ha; split at ha <;> first | exact ha | cases ha
    have hy' : x[j]? = some y := by rw [List.getElem?_take] at hy; split at hy <;> first | exact hy | cases hy
    have hok := hV.at ha'
    exact (part_bd rfl (rst_bd hp (hx.at hy')) (by omega) (by omega)).2.2
  have h3 : (arcs.take i).length ≤ 4000 := by have := hV.len; rw [List.length_take]; omega
  omega

theorem part_pos {p : List Int} {a : Arc} {y : Int} (h : 0 < rst p a y) : part p a y = rst p a y * a.hi := if_pos h
theorem part_neg {p : List Int} {a : Arc} {y : Int} (h : rst p a y < 0) : part p a y = rst p a y * a.lo := by rw [part, if_neg (by omega), if_pos h]
theorem part_zero {p : List Int} {a : Arc} {y : Int} (h1 : ¬ 0 < rst p a y) (h2 : ¬ rst p a y < 0) : part p a y = 0 := by rw [part, if_neg h1, if_neg h2]
theorem told1_pos {p : List Int} {a : Arc} {y : Int} (h : 0 < rst p a y) : told1 p a y = [(a, true)] := if_pos h
theorem told1_neg {p : List Int} {a : Arc} {y : Int} (h : rst p a y < 0) : told1 p a y = [(a, false)] := by rw [told1, if_neg (by omega), if_pos h]
theorem told1_zero {p : List Int} {a : Arc} {y : Int} (h1 : ¬ 0 < rst p a y) (h2 : ¬ rst p a y < 0) : told1 p a y = [] := by rw [told1, if_neg h1, if_neg h2]

theorem idx_neg {α : Type} {p : α → Bool} {l : List α} (h : idx p l = -1) : ∀ x ∈ l, p x = false := by
  have h1 : ¬ l.any p = true := fun hh => by have := (idx_ge p l).2 hh; omega
  intro x hx
  cases hp : p x with
  | false => rfl
  | true => exact absurd (List.any_eq_true.2 ⟨x, hx, hp⟩) h1
theorem idx_pos {α : Type} {p : α → Bool} {l : List α} (h : ¬ idx p l = -1) : ∃ (i : Nat) (a : α), idx p l = i ∧ l[i]? = some a ∧ p a = true ∧ ∀ x ∈ l.take i, p x = false := by
  unfold idx at h ⊢
  cases hf : l.findIdx? p with
  | none => rw [hf] at h; exact absurd rfl h
  | some i =>
    obtain ⟨hi, h1, h2⟩ := List.findIdx?_eq_some_iff_getElem.1 hf
    refine ⟨i, l[i], rfl, List.getElem?_eq_getElem hi, h1, fun x hx => ?_⟩
    obtain ⟨j, hj, rfl⟩ := List.mem_iff_getElem.1 hx
    have hj' : j < i := by simp at hj; omega
    rw [List.getElem_take]
    simpa using h2 j hj'

theorem told1_len {p : List Int} {a : Arc} {y : Int} : (told1 p a y).length ≤ 1 := by
  unfold told1; split
  · simp
  · split <;> simp
theorem told_len {p : List Int} : ∀ (as : List Arc) (ys : List Int), (told p as ys).length ≤ as.length := by
  intro as
  induction as with
  | nil => intro ys; simp [told]
  | cons a as ih =>
    intro ys
    cases ys with
    | nil => simp [told]
    | cons y ys =>
      have h1 := ih ys
      have h2 := told1_len (p := p) (a := a) (y := y)
      simp only [told, List.length_append, List.length_cons]; omega

/-- The records of what is told. -/
def rec1 : Arc × Bool → List Int
  | (a, true) => [a.hiBy]
  | (a, false) => if 0 < a.lo then [a.loBy] else []
def recs (t : List (Arc × Bool)) : List Int := t.flatMap rec1
theorem recs_snoc (t : List (Arc × Bool)) (x : Arc × Bool) : recs (t ++ [x]) = recs t ++ rec1 x := by simp [recs]
theorem recs_len (t : List (Arc × Bool)) : (recs t).length ≤ t.length := by
  induction t with
  | nil => simp [recs]
  | cons x t ih =>
    have h : (rec1 x).length ≤ 1 := by
      obtain ⟨a, b⟩ := x
      cases b
      · simp only [rec1]; split <;> simp
      · simp [rec1]
    simp only [recs, List.flatMap_cons, List.length_append, List.length_cons] at ih ⊢; omega

/-- Records in ascending order, each once, without 0. -/
def lst (l : List Int) : List Int := Lib.compact ((l.filter fun x => !decide (x = 0)).mergeSort fun x y => decide (x ≤ y))
theorem lst_sorted (l : List Int) : (lst l).Pairwise (· < ·) := (compact_sorted (mergeSort_le _)).1
theorem mem_lst {l : List Int} {x : Int} : x ∈ lst l ↔ x ∈ l ∧ x ≠ 0 := by
  rw [lst, (compact_sorted (mergeSort_le _)).2 x, List.mem_mergeSort, List.mem_filter]; simp

/-! ### obstacles -/

/-- For each node whether it is in a list. -/
def mk (N : Int) (l : List Int) : List Bool := (List.range N.toNat).map fun (v : Nat) => decide ((v : Int) ∈ l)
theorem mk_length (N : Int) (l : List Int) : (mk N l).length = N.toNat := by simp [mk]
theorem mk_nil (N : Int) : mk N [] = List.replicate N.toNat false := by
  simp only [mk, List.not_mem_nil, decide_false, List.map_const', List.length_range]
theorem mk_get {N : Int} {l : List Int} {x : Int} (h : 0 ≤ x ∧ x < N) : (mk N l)[x.toNat]? = some (decide (x ∈ l)) := by
  have h1 : x.toNat < N.toNat := by omega
  have h2 : ((x.toNat : Nat) : Int) = x := by omega
  simp [mk, h1, h2]
theorem mk_set {N : Int} {l : List Int} {x : Int} (h : 0 ≤ x ∧ x < N) : (mk N l).set x.toNat true = mk N (l ++ [x]) := by
  apply List.ext_getElem?
  intro j
  simp only [mk, List.getElem?_set, List.getElem?_map, List.length_map, List.length_range, List.mem_append, List.mem_singleton]
  by_cases hj : j < N.toNat
  · by_cases e : x.toNat = j
    · have e' : (j : Int) = x := by omega
      have e2 : x.toNat < N.toNat := by omega
      rw [if_pos e, if_pos e2, List.getElem?_range hj]
      simp [e']
    · have e' : ¬ (j : Int) = x := by omega
      simp [e, hj, e']
  · by_cases e : x.toNat = j
    · omega
    · simp [e, hj]

/-- The arcs that lead out of nodes (true) or into them (false). -/
def cut1 (ns : List Int) (a : Arc) : List (Arc × Bool) := if decide (a.src ∈ ns) ≠ decide (a.dst ∈ ns) then [(a, decide (a.src ∈ ns))] else []
def cutl (ns : List Int) (as : List Arc) : List (Arc × Bool) := as.flatMap (cut1 ns)
theorem cutl_take {ns : List Int} {as : List Arc} {i : Nat} {a : Arc} (ha : as[i]? = some a) : cutl ns (as.take (i + 1)) = cutl ns (as.take i) ++ cut1 ns a := by
  obtain ⟨h1, rfl⟩ := List.getElem?_eq_some_iff.1 ha
  rw [cutl, take_snoc as i h1, List.flatMap_append]; simp [cutl]
theorem cutl_split {ns : List Int} {as : List Arc} {i : Nat} : cutl ns as = cutl ns (as.take i) ++ cutl ns (as.drop i) := by
  rw [cutl, cutl, cutl, ← List.flatMap_append, List.take_append_drop]
theorem cutl_len (ns : List Int) (as : List Arc) : (cutl ns as).length ≤ as.length := by
  induction as with
  | nil => simp [cutl]
  | cons a as ih =>
    have h : (cut1 ns a).length ≤ 1 := by unfold cut1; split <;> simp
    simp only [cutl, List.flatMap_cons, List.length_append, List.length_cons] at ih ⊢; omega
theorem mem_cutl {ns : List Int} {as : List Arc} {a : Arc} {o : Bool} (h : (a, o) ∈ cutl ns as) : a ∈ as := by
  simp only [cutl, List.mem_flatMap] at h
  obtain ⟨c, hc, h⟩ := h
  unfold cut1 at h
  split at h
  · simp at h; obtain ⟨rfl, _⟩ := h; exact hc
  · cases h

/-- What has to go out of the nodes less what can go into them. -/
def csum1 : Arc × Bool → Int
  | (a, true) => a.lo
  | (a, false) => -a.hi
def csum (t : List (Arc × Bool)) : Int := (t.map csum1).foldl (· + ·) 0
theorem csum_snoc (t : List (Arc × Bool)) (x : Arc × Bool) : csum (t ++ [x]) = csum t + csum1 x := by simp [csum]
theorem csum_bd (t : List (Arc × Bool)) (h : ∀ x ∈ t, -1000000 ≤ csum1 x ∧ csum1 x ≤ 1000000) : ∀ i, i ≤ t.length → -(1000000 * (i : Int)) ≤ csum (t.take i) ∧ csum (t.take i) ≤ 1000000 * (i : Int) := by
  intro i
  induction i with
  | zero => intro _; simp [csum]
  | succ i ih =>
    intro hi
    have h1 := ih (by omega)
    rw [take_snoc t i (by omega), csum_snoc]
    have h2 := h t[i] (List.getElem_mem _)
    omega
theorem csum_bd_prefix {N : Int} {arcs : List Arc} (hV : Valid N arcs) {ns : List Int} {t s : List (Arc × Bool)} {x : Arc × Bool} (h : cutl ns arcs = t ++ x :: s) :
    (-4000000000 ≤ csum t ∧ csum t ≤ 4000000000) ∧ -1000000 ≤ csum1 x ∧ csum1 x ≤ 1000000 := by
  have hall : ∀ x ∈ cutl ns arcs, -1000000 ≤ csum1 x ∧ csum1 x ≤ 1000000 := by
    rintro ⟨a, o⟩ hx
    have h1 := okArc_iff.1 (hV.ok a (mem_cutl hx))
    cases o <;> simp only [csum1] <;> omega
  have hl := cutl_len ns arcs
  have hV' := hV.len
  have h2 : t.length ≤ (cutl ns arcs).length := by rw [h]; simp
  have h3 := csum_bd _ hall t.length h2
  have h4 : (cutl ns arcs).take t.length = t := by rw [h, List.take_left]
  rw [h4] at h3
  exact ⟨by omega, hall x (by rw [h]; simp)⟩

/-- Ascending, above a number, below N. -/
def asc (N : Int) : Int → List Int → Bool
  | _, [] => true
  | last, v :: vs => decide (last + 1 ≤ v ∧ v ≤ N - 1) && asc N v vs
theorem asc_mem {N : Int} : ∀ (l : List Int) (last : Int), asc N last l = true → ∀ v ∈ l, last + 1 ≤ v ∧ v ≤ N - 1 := by
  intro l
  induction l with
  | nil => intro last _ v hv; cases hv
  | cons a l ih =>
    intro last h v hv
    simp only [asc, Bool.and_eq_true, decide_eq_true_eq] at h
    rcases List.mem_cons.1 hv with rfl | hv
    · exact h.1
    · have := ih a h.2 v hv; omega

/-- Is arc A's least amount above its greatest? -/
def bad (arcs : List Arc) (A : Int) : Bool := decide (0 ≤ A ∧ A ≤ (arcs.length : Int) - 1) && (match arcs[A.toNat]? with | some a => decide (a.hi < a.lo) | none => false)
/-- Is something an obstacle? -/
def hind (N : Int) (arcs : List Arc) (A : Int) (ns : List Int) : Bool :=
  if A ≠ -1 then decide ((ns.length : Int) = 0) && bad arcs A else asc N (-1) ns && decide (0 < csum (cutl ns arcs))

theorem hind_bad {N : Int} {arcs : List Arc} {A : Int} {ns : List Int} (h : hind N arcs A ns = true) (hA : 0 ≤ A) : ∃ a, arcs[A.toNat]? = some a ∧ a.hi < a.lo := by
  rw [hind, if_pos (by omega)] at h
  simp only [bad, Bool.and_eq_true, decide_eq_true_eq] at h
  obtain ⟨a, ha⟩ : ∃ a, arcs[A.toNat]? = some a := ⟨_, List.getElem?_eq_getElem (by omega)⟩
  rw [ha] at h
  exact ⟨a, ha, by simpa using h.2.2⟩
theorem hind_cut {N : Int} {arcs : List Arc} {A : Int} {ns : List Int} (h : hind N arcs A ns = true) (hA : ¬ 0 ≤ A) : A = -1 ∧ asc N (-1) ns = true ∧ 0 < csum (cutl ns arcs) := by
  by_cases e : A = -1
  · rw [hind, if_neg (by omega)] at h
    simp only [Bool.and_eq_true, decide_eq_true_eq] at h
    exact ⟨e, h⟩
  · rw [hind, if_pos e] at h
    simp only [bad, Bool.and_eq_true, decide_eq_true_eq] at h
    omega
/-- The records on which an obstacle rests, as they are met. -/
def orecs (t : List (Arc × Bool)) : List Int := recs (t.map fun x => (x.1, !x.2))
theorem orecs_snoc (t : List (Arc × Bool)) (x : Arc × Bool) : orecs (t ++ [x]) = orecs t ++ rec1 (x.1, !x.2) := by simp [orecs, recs]
theorem orecs_len (t : List (Arc × Bool)) : (orecs t).length ≤ t.length := by
  have := recs_len (t.map fun x => (x.1, !x.2)); simpa [orecs] using this
/-- The records of an obstacle. -/
def orec (arcs : List Arc) (A : Int) (ns : List Int) : List Int :=
  if 0 ≤ A then (match arcs[A.toNat]? with | some a => lst [a.loBy, a.hiBy] | none => []) else lst (orecs (cutl ns arcs))

/-! ### steps -/

/-- The cost of a step along an arc. -/
def cst (p : Nat → Int) (a : Arc) (q : Int) : Int := p a.src.toNat - p a.dst.toNat - q
def fwd (p : Nat → Int) (i : Nat) (a : Arc) (q : Int) : Stp := ⟨i, false, a.src, a.dst, cst p a q⟩
def bwd (p : Nat → Int) (i : Nat) (a : Arc) (q : Int) : Stp := ⟨i, true, a.dst, a.src, -cst p a q⟩
def stp1 (p : Nat → Int) (i : Nat) (a : Arc) (y q : Int) : List Stp := (if y < a.hi then [fwd p i a q] else []) ++ (if a.lo < y then [bwd p i a q] else [])
/-- The steps that amounts leave. -/
def stps (p : Nat → Int) : Nat → List Arc → List Int → List Int → List Stp
  | i, a :: as, y :: ys, q :: qs => stp1 p i a y q ++ stps p (i + 1) as ys qs
  | _, _, _, _ => []

theorem stps_split (p : Nat → Int) : ∀ (i k : Nat) (as : List Arc) (ys qs : List Int), stps p k as ys qs = stps p k (as.take i) (ys.take i) (qs.take i) ++ stps p (k + i) (as.drop i) (ys.drop i) (qs.drop i) := by
  intro i
  induction i with
  | zero => intro k as ys qs; simp [stps]
  | succ i ih =>
    intro k as ys qs
    cases as with
    | nil => simp [stps]
    | cons a as =>
      cases ys with
      | nil => simp [stps]
      | cons y ys =>
        cases qs with
        | nil => simp [stps]
        | cons q qs =>
          have e : k + (i + 1) = (k + 1) + i := by omega
          simp only [List.take_succ_cons, List.drop_succ_cons, stps, List.append_assoc]
          rw [ih (k + 1) as ys qs, e]
theorem stps_at (p : Nat → Int) {k i : Nat} {as : List Arc} {ys qs : List Int} {a : Arc} {y q : Int} (ha : as[i]? = some a) (hy : ys[i]? = some y) (hq : qs[i]? = some q) :
    stps p k (as.drop i) (ys.drop i) (qs.drop i) = stp1 p k a y q ++ stps p (k + 1) (as.drop (i + 1)) (ys.drop (i + 1)) (qs.drop (i + 1)) := by
  obtain ⟨h1, rfl⟩ := List.getElem?_eq_some_iff.1 ha
  obtain ⟨h2, rfl⟩ := List.getElem?_eq_some_iff.1 hy
  obtain ⟨h3, rfl⟩ := List.getElem?_eq_some_iff.1 hq
  rw [List.drop_eq_getElem_cons h1, List.drop_eq_getElem_cons h2, List.drop_eq_getElem_cons h3]
  rfl
theorem stps_take (p : Nat → Int) {i : Nat} {as : List Arc} {ys qs : List Int} {a : Arc} {y q : Int} (ha : as[i]? = some a) (hy : ys[i]? = some y) (hq : qs[i]? = some q) :
    stps p 0 (as.take (i + 1)) (ys.take (i + 1)) (qs.take (i + 1)) = stps p 0 (as.take i) (ys.take i) (qs.take i) ++ stp1 p i a y q := by
  have h := stps_split p i 0 (as.take (i + 1)) (ys.take (i + 1)) (qs.take (i + 1))
  have ha' : (as.take (i + 1))[i]? = some a := by rw [List.getElem?_take, if_pos (by omega)]; exact ha
  have hy' : (ys.take (i + 1))[i]? = some y := by rw [List.getElem?_take, if_pos (by omega)]; exact hy
  have hq' : (qs.take (i + 1))[i]? = some q := by rw [List.getElem?_take, if_pos (by omega)]; exact hq
  rw [stps_at p ha' hy' hq', List.take_take, List.take_take, List.take_take, Nat.min_eq_left (by omega)] at h
  rw [h]
  have e : (as.take (i + 1)).drop (i + 1) = [] := List.drop_eq_nil_of_le (by simp; omega)
  rw [e]
  simp [stps]
theorem stps_mid (p : Nat → Int) {i : Nat} {as : List Arc} {ys qs : List Int} {a : Arc} {y q : Int} (ha : as[i]? = some a) (hy : ys[i]? = some y) (hq : qs[i]? = some q) :
    ∃ s, stps p 0 as ys qs = stps p 0 (as.take i) (ys.take i) (qs.take i) ++ (stp1 p i a y q ++ s) := by
  have h := stps_split p i 0 as ys qs
  rw [stps_at p ha hy hq, Nat.zero_add] at h
  exact ⟨_, h⟩
theorem mem_stps {p : Nat → Int} {s : Stp} : ∀ {as : List Arc} {ys qs : List Int} {k : Nat}, s ∈ stps p k as ys qs → ∃ (i : Nat) (a : Arc) (y q : Int), as[i]? = some a ∧ ys[i]? = some y ∧ qs[i]? = some q ∧ s ∈ stp1 p (k + i) a y q := by
  intro as
  induction as with
  | nil => intro ys qs k h; simp [stps] at h
  | cons a as ih =>
    intro ys qs k h
    cases ys with
    | nil => simp [stps] at h
    | cons y ys =>
      cases qs with
      | nil => simp [stps] at h
      | cons q qs =>
        simp only [stps, List.mem_append] at h
        rcases h with h | h
        · exact ⟨0, a, y, q, rfl, rfl, rfl, h⟩
        · obtain ⟨i, a', y', q', h1, h2, h3, h4⟩ := ih h
          have e : k + 1 + i = k + (i + 1) := by omega
          rw [e] at h4
          exact ⟨i + 1, a', y', q', by simpa using h1, by simpa using h2, by simpa using h3, h4⟩
theorem mem_stps_of {p : Nat → Int} {s : Stp} {as : List Arc} {ys qs : List Int} {i : Nat} {a : Arc} {y q : Int} (ha : as[i]? = some a) (hy : ys[i]? = some y) (hq : qs[i]? = some q) (h : s ∈ stp1 p i a y q) : s ∈ stps p 0 as ys qs := by
  obtain ⟨t, e⟩ := stps_mid p ha hy hq
  rw [e]
  simp only [List.mem_append]
  exact .inr (.inl h)
theorem mem_stp1 {p : Nat → Int} {s : Stp} {i : Nat} {a : Arc} {y q : Int} : s ∈ stp1 p i a y q ↔ (y < a.hi ∧ s = fwd p i a q) ∨ (a.lo < y ∧ s = bwd p i a q) := by
  unfold stp1
  rw [List.mem_append]
  constructor
  · rintro (h | h)
    · split at h
      · rename_i hc; exact .inl ⟨hc, by simpa using h⟩
      · cases h
    · split at h
      · rename_i hc; exact .inr ⟨hc, by simpa using h⟩
      · cases h
  · rintro (⟨h1, rfl⟩ | ⟨h1, rfl⟩)
    · left; rw [if_pos h1]; simp
    · right; rw [if_pos h1]; simp
theorem stps_len (p : Nat → Int) : ∀ (k : Nat) (as : List Arc) (ys qs : List Int), (stps p k as ys qs).length ≤ 2 * as.length := by
  intro k as
  induction as generalizing k with
  | nil => intro ys qs; simp [stps]
  | cons a as ih =>
    intro ys qs
    cases ys with
    | nil => simp [stps]
    | cons y ys =>
      cases qs with
      | nil => simp [stps]
      | cons q qs =>
        have h := ih (k + 1) ys qs
        have h1 : (stp1 p k a y q).length ≤ 2 := by unfold stp1; split <;> split <;> simp
        simp only [stps, List.length_append, List.length_cons]; omega

/-- The steps by their first nodes. -/
def byl (N : Int) (t : List Stp) : List (List Stp) := (List.range N.toNat).map fun (v : Nat) => t.filter fun s => decide (s.src = (v : Int))
theorem byl_nil (N : Int) : byl N [] = List.replicate N.toNat [] := by simp [byl, List.map_const']
theorem byl_get {N : Int} {t : List Stp} {v : Nat} (h : v < N.toNat) : (byl N t)[v]? = some (t.filter fun s => decide (s.src = (v : Int))) := by simp [byl, h]
theorem byl_snoc {N : Int} {t : List Stp} {s : Stp} (h : 0 ≤ s.src ∧ s.src < N) : (byl N t).set s.src.toNat ((t.filter fun u => decide (u.src = ((s.src.toNat : Nat) : Int))) ++ [s]) = byl N (t ++ [s]) := by
  apply List.ext_getElem?
  intro j
  simp only [byl, List.getElem?_set, List.getElem?_map, List.length_map, List.length_range]
  by_cases hj : j < N.toNat
  · by_cases e : s.src.toNat = j
    · have e' : s.src = (j : Int) := by omega
      have e2 : s.src.toNat < N.toNat := by omega
      rw [if_pos e, if_pos e2, List.getElem?_range hj]
      simp [e']
    · have e' : ¬ s.src = (j : Int) := by omega
      simp [e, hj, e']
  · by_cases e : s.src.toNat = j
    · omega
    · simp [e, hj]

theorem stps_ok {N : Int} {arcs : List Arc} (hV : Valid N arcs) {p : Nat → Int} {x wl : List Int} {s : Stp} (h : s ∈ stps p 0 arcs x wl) :
    0 ≤ s.src ∧ s.src < N ∧ 0 ≤ s.dst ∧ s.dst < N ∧ 0 ≤ s.arc ∧ s.arc < arcs.length := by
  obtain ⟨i, a, y, q, ha, _, _, hs⟩ := mem_stps h
  have hok := hV.at ha
  have hi := (List.getElem?_eq_some_iff.1 ha).1
  rcases mem_stp1.1 hs with ⟨_, rfl⟩ | ⟨_, rfl⟩ <;> simp only [fwd, bwd] <;> omega

/-- The error of a net, and 1 if it has none but something is not so. -/
def askd (N : Int) (arcs : List Arc) (p : Bool) : Int := if chk N arcs ≠ 0 then chk N arcs else if p = true then 0 else 1
theorem askd_zero {N : Int} {arcs : List Arc} {p : Bool} : askd N arcs p = 0 ↔ Valid N arcs ∧ p = true := by
  rw [← chk_zero, askd]
  split
  · rename_i h; exact ⟨fun h1 => absurd h1 h, fun h1 => absurd h1.1 h⟩
  · rename_i h; cases p <;> simp at h ⊢; exact h

end Flow
end Go.Vk
