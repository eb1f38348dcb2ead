/- Texts joined for a claim: VkFlowMath, VkFlowAlg, VkFlowLead, VkFlowShow, VkFlowRel, VkFlowEdit, VkFlowNet. -/
import Derived.Test.YtddapgjjndbejaaKb
/- Nets, as plain mathematics: no program in sight. -/
namespace Go.Vk
open Go

structure Arc where
  src : Int
  dst : Int
  lo : Int
  hi : Int
  loBy : Int
  hiBy : Int
deriving DecidableEq

def Arc.enc (a : Arc) : List Value := [.int .i64 a.src, .int .i64 a.dst, .int .i64 a.lo, .int .i64 a.hi, .int .i64 a.loBy, .int .i64 a.hiBy]

def arcE (T : TypeId) : Elt Arc where
  T := T
  sz := 6
  enc := Arc.enc
  zero := (⟨0, 0, 0, 0, 0, 0⟩ : Arc).enc
  len _ := rfl
  zlen := rfl
  one a x h := by simp [Arc.enc] at h; rcases h with h | h | h | h | h | h <;> subst h <;> rfl
  pos := by decide

/-- One unit more, or less, along an arc. -/
structure Stp where
  arc : Int
  back : Bool
  src : Int
  dst : Int
  cost : Int
deriving DecidableEq

def Stp.enc (s : Stp) : List Value := [.int .i64 s.arc, .bool s.back, .int .i64 s.src, .int .i64 s.dst, .int .i64 s.cost]

def stpE (T : TypeId) : Elt Stp where
  T := T
  sz := 5
  enc := Stp.enc
  zero := (⟨0, false, 0, 0, 0⟩ : Stp).enc
  len _ := rfl
  zlen := rfl
  one a x h := by simp [Stp.enc] at h; rcases h with h | h | h | h | h <;> subst h <;> rfl
  pos := by decide

/-- The cells of a net with amounts. -/
def carC (N : Int) (va vx vw : Value) (m p : Nat → Int) : List Value := [.int .i64 N, va, vx, vw] ++ (tab 1000 m ++ (tab 1000 p ++ []))
section
variable {N : Int} {va vx vw : Value} {m p : Nat → Int} {i o : Nat} {x : Int}
theorem carm_get (ho : 4 = o) (h : i < 1000) : (carC N va vx vw m p)[o + i * 1]? = some (.int .i64 (m i)) := seg_get ho h
theorem carm_set (ho : 4 = o) (h : i < 1000) : (carC N va vx vw m p).set (o + i * 1) (.int .i64 x) = carC N va vx vw (upf m i x) p := seg_set ho h
theorem carm_lt (ho : 4 = o) (h : i < 1000) : o + i * 1 < (carC N va vx vw m p).length := seg_lt ho h
theorem carp_eq : carC N va vx vw m p = ([.int .i64 N, va, vx, vw] ++ tab 1000 m) ++ (tab 1000 p ++ []) := by rw [carC, List.append_assoc]
theorem carp_len : ([.int .i64 N, va, vx, vw] ++ tab 1000 m).length = 1004 := by rw [List.length_append, tab_length]; rfl
theorem carp_get (ho : 1004 = o) (h : i < 1000) : (carC N va vx vw m p)[o + i * 1]? = some (.int .i64 (p i)) := by rw [carp_eq]; exact seg_get (carp_len.trans ho) h
theorem carp_set (ho : 1004 = o) (h : i < 1000) : (carC N va vx vw m p).set (o + i * 1) (.int .i64 x) = carC N va vx vw m (upf p i x) := by rw [carp_eq, carp_eq]; exact seg_set (carp_len.trans ho) h
theorem carp_lt (ho : 1004 = o) (h : i < 1000) : o + i * 1 < (carC N va vx vw m p).length := by rw [carp_eq]; exact seg_lt (carp_len.trans ho) h
end

namespace Flow

/-- Is it an arc of a net of N nodes? -/
def okArc (N : Int) (a : Arc) : Bool :=
  decide (0 ≤ a.src ∧ a.src < N ∧ 0 ≤ a.dst ∧ a.dst < N ∧ 0 ≤ a.lo ∧ a.lo ≤ 1000000 ∧ 0 ≤ a.hi ∧ a.hi ≤ 1000000 ∧ 0 ≤ a.loBy ∧ a.loBy ≤ 1000000 ∧ 0 ≤ a.hiBy ∧ a.hiBy ≤ 1000000)

theorem okArc_iff {N : Int} {a : Arc} : okArc N a = true ↔ (0 ≤ a.src ∧ a.src < N ∧ 0 ≤ a.dst ∧ a.dst < N ∧ 0 ≤ a.lo ∧ a.lo ≤ 1000000 ∧ 0 ≤ a.hi ∧ a.hi ≤ 1000000 ∧ 0 ≤ a.loBy ∧ a.loBy ≤ 1000000 ∧ 0 ≤ a.hiBy ∧ a.hiBy ≤ 1000000) := by
  simp [okArc]

/-- The error of a net: 2 'limit', 1 'arg', 0 none. -/
def chk (N : Int) (arcs : List Arc) : Int :=
  if 1000 < N ∨ 4000 < arcs.length then 2 else if N < 1 ∨ arcs.any (fun a => !okArc N a) = true then 1 else 0

structure Valid (N : Int) (arcs : List Arc) : Prop where
  pos : 1 ≤ N
  max : N ≤ 1000
  len : arcs.length ≤ 4000
  ok : ∀ a ∈ arcs, okArc N a = true

theorem chk_zero {N : Int} {arcs : List Arc} : chk N arcs = 0 ↔ Valid N arcs := by
  unfold chk
  constructor
  · intro h
    split at h
    · cases h
    · rename_i h1
      split at h
      · cases h
      · rename_i h2
        simp only [not_or, List.any_eq_true, not_exists, not_and, Bool.not_eq_true', Bool.not_eq_false] at h1 h2
        exact ⟨by omega, by omega, by omega, h2.2⟩
  · intro h
    rw [if_neg (by have := h.max; have := h.len; omega), if_neg]
    simp only [not_or, List.any_eq_true, not_exists, not_and, Bool.not_eq_true', Bool.not_eq_false]
    exact ⟨by have := h.pos; omega, h.ok⟩

/-- A list of a length whose numbers are from a to b. -/
def row (l : List Int) (n a b : Int) : Bool := decide ((l.length : Int) = n) && !l.any fun x => !decide (a ≤ x ∧ x ≤ b)

theorem row_iff {l : List Int} {n a b : Int} : row l n a b = true ↔ (l.length : Int) = n ∧ ∀ x ∈ l, a ≤ x ∧ x ≤ b := by
  simp [row]

/-- The first place at which p holds; -1: none. -/
def idx {α : Type} (p : α → Bool) (l : List α) : Int := match l.findIdx? p with | some i => (i : Int) | none => -1

theorem idx_ge {α : Type} (p : α → Bool) (l : List α) : (0 ≤ idx p l) ↔ l.any p = true := by
  unfold idx
  cases h : l.findIdx? p with
  | none => simp [List.findIdx?_eq_none_iff] at h; simp; exact h
  | some i =>
    have := List.findIdx?_eq_some_iff_getElem.1 h
    obtain ⟨h1, h2, _⟩ := this
    simp only [Int.natCast_nonneg, true_iff, List.any_eq_true]
    exact ⟨_, List.getElem_mem h1, h2⟩

theorem idx_none {α : Type} {p : α → Bool} {l : List α} (h : ∀ a ∈ l, p a = false) : idx p l = -1 := by
  unfold idx
  rw [List.findIdx?_eq_none_iff.2 h]

theorem idx_at {α : Type} {p : α → Bool} {l : List α} {i : Nat} {a : α} (ha : l[i]? = some a) (hp : p a = true) (h : ∀ x ∈ l.take i, p x = false) : idx p l = i := by
  unfold idx
  obtain ⟨hi, he⟩ := List.getElem?_eq_some_iff.1 ha
  have : l.findIdx? p = some i := by
    rw [List.findIdx?_eq_some_iff_getElem]
    refine ⟨hi, by rw [he]; exact hp, fun j hj => ?_⟩
    have : l[j] ∈ l.take i := by
      rw [List.mem_take_iff_getElem]
      exact ⟨j, by omega, rfl⟩
    simp [h _ this]
  rw [this]

/-- What goes in less what goes out at a node. -/
def ex : List Arc → List Int → Nat → Int
  | a :: as, y :: ys, v => (if a.dst = v then y else 0) - (if a.src = v then y else 0) + ex as ys v
  | _, _, _ => 0

theorem ex_snoc : ∀ (as : List Arc) (ys : List Int) (a : Arc) (y : Int) (v : Nat), as.length = ys.length → ex (as ++ [a]) (ys ++ [y]) v = ex as ys v + ((if a.dst = v then y else 0) - (if a.src = v then y else 0)) := by
  intro as
  induction as with
  | nil => intro ys a y v h; cases ys with
    | nil => simp [ex]
    | cons => simp at h
  | cons b as ih =>
    intro ys a y v h
    cases ys with
    | nil => simp at h
    | cons z ys =>
      simp only [List.cons_append, ex, ih ys a y v (by simpa using h)]
      omega

theorem take_snoc {α : Type} (l : List α) (i : Nat) (h : i < l.length) : l.take (i + 1) = l.take i ++ [l[i]] := by
  rw [List.take_succ_eq_append_getElem h]

theorem ex_take (as : List Arc) (ys : List Int) (i : Nat) (v : Nat) (h1 : i < as.length) (h2 : i < ys.length) :
    ex (as.take (i + 1)) (ys.take (i + 1)) v = ex (as.take i) (ys.take i) v + ((if as[i].dst = v then ys[i] else 0) - (if as[i].src = v then ys[i] else 0)) := by
  rw [take_snoc as i h1, take_snoc ys i h2, ex_snoc]
  simp; omega

theorem ex_bd : ∀ (as : List Arc) (ys : List Int) (v : Nat) (B : Int), 0 ≤ B → (∀ y ∈ ys, 0 ≤ y ∧ y ≤ B) → -(B * ys.length) ≤ ex as ys v ∧ ex as ys v ≤ B * ys.length := by
  intro as
  induction as with
  | nil => intro ys v B hB h; simp only [ex]; have : 0 ≤ B * (ys.length : Int) := Int.mul_nonneg hB (by omega); omega
  | cons a as ih =>
    intro ys v B hB h
    cases ys with
    | nil => simp [ex]
    | cons y ys =>
      have h1 := ih ys v B hB (fun z hz => h z (List.mem_cons_of_mem _ hz))
      have h2 := h y (List.mem_cons_self ..)
      have e : B * (((y :: ys).length : Nat) : Int) = B * (ys.length : Int) + B := by
        rw [List.length_cons, Int.natCast_add, Int.mul_add]; simp
      simp only [ex]
      rw [e]
      split <;> split <;> omega

/-- Each amount lies between the bounds of its arc. -/
def within : List Arc → List Int → Bool
  | a :: as, y :: ys => decide (a.lo ≤ y ∧ y ≤ a.hi) && within as ys
  | _, _ => true

theorem within_iff : ∀ (as : List Arc) (ys : List Int), as.length = ys.length → (within as ys = true ↔ ∀ (i : Nat) (a : Arc) (y : Int), as[i]? = some a → ys[i]? = some y → a.lo ≤ y ∧ y ≤ a.hi) := by
  intro as
  induction as with
  | nil => intro ys _; simp [within]
  | cons a as ih =>
    intro ys h
    cases ys with
    | nil => simp at h
    | cons y ys =>
      simp only [within, Bool.and_eq_true, decide_eq_true_eq, ih ys (by simpa using h)]
      constructor
      · rintro ⟨h1, h2⟩ i b z hb hz
        cases i with
        | zero => simp at hb hz; subst hb; subst hz; exact h1
        | succ i => exact h2 i b z (by simpa using hb) (by simpa using hz)
      · intro h
        exact ⟨h 0 a y rfl rfl, fun i b z hb hz => h (i + 1) b z (by simpa using hb) (by simpa using hz)⟩

/-- The amounts are a circulation, as far as the first n nodes show. -/
def kept (n : Nat) (as : List Arc) (ys : List Int) : Bool := within as ys && (List.range n).all fun v => ex as ys v == 0

theorem ex_out {N : Int} : ∀ (as : List Arc) (ys : List Int) (v : Nat), (∀ a ∈ as, okArc N a = true) → N ≤ v → ex as ys v = 0 := by
  intro as
  induction as with
  | nil => intro ys v _ _; simp [ex]
  | cons a as ih =>
    intro ys v h hv
    cases ys with
    | nil => simp [ex]
    | cons y ys =>
      have h1 := okArc_iff.1 (h a (List.mem_cons_self ..))
      simp only [ex, ih ys v (fun b hb => h b (List.mem_cons_of_mem _ hb)) hv]
      rw [if_neg (by omega), if_neg (by omega)]
      rfl

theorem kept_big {N : Int} {as : List Arc} {ys : List Int} {n : Nat} (h : ∀ a ∈ as, okArc N a = true) (hn : N ≤ n) : kept n as ys = kept N.toNat as ys := by
  simp only [kept]
  congr 1
  rw [Bool.eq_iff_iff, List.all_eq_true, List.all_eq_true]
  constructor
  · intro h1 v hv
    exact h1 v (List.mem_range.2 (by have := List.mem_range.1 hv; omega))
  · intro h1 v hv
    by_cases hv' : v < N.toNat
    · exact h1 v (List.mem_range.2 hv')
    · rw [ex_out as ys v h (by omega)]; rfl

/-! ### steps of the loops -/

theorem within_snoc : ∀ (as : List Arc) (ys : List Int) (a : Arc) (y : Int), as.length = ys.length → within (as ++ [a]) (ys ++ [y]) = (within as ys && decide (a.lo ≤ y ∧ y ≤ a.hi)) := by
  intro as
  induction as with
  | nil => intro ys a y h; cases ys with
    | nil => simp [within]
    | cons => simp at h
  | cons b as ih =>
    intro ys a y h
    cases ys with
    | nil => simp at h
    | cons z ys => simp only [List.cons_append, within, ih ys a y (by simpa using h), Bool.and_assoc]

theorem within_take {as : List Arc} {ys : List Int} {i : Nat} {a : Arc} {y : Int} (ha : as[i]? = some a) (hy : ys[i]? = some y) :
    within (as.take (i + 1)) (ys.take (i + 1)) = (within (as.take i) (ys.take i) && decide (a.lo ≤ y ∧ y ≤ a.hi)) := by
  obtain ⟨h1, rfl⟩ := List.getElem?_eq_some_iff.1 ha
  obtain ⟨h2, rfl⟩ := List.getElem?_eq_some_iff.1 hy
  rw [take_snoc as i h1, take_snoc ys i h2, within_snoc]
  simp; omega

theorem within_ge {as : List Arc} {ys : List Int} {i : Nat} (h : within (as.take i) (ys.take i) = false) : within as ys = false := by
  induction as generalizing ys i with
  | nil => simp [within] at h
  | cons a as ih =>
    cases ys with
    | nil => cases i <;> simp [within] at h
    | cons y ys =>
      cases i with
      | zero => simp [within] at h
      | succ i =>
        simp only [List.take_succ_cons, within, Bool.and_eq_false_iff] at h ⊢
        rcases h with h | h
        · exact .inl h
        · exact .inr (ih h)

/-- Amounts of a net. -/
structure Amts (arcs : List Arc) (x : List Int) : Prop where
  len : x.length = arcs.length
  bd : ∀ y ∈ x, 0 ≤ y ∧ y ≤ 1000000

theorem row_amts {arcs : List Arc} {x : List Int} : row x arcs.length 0 1000000 = true ↔ Amts arcs x := by
  rw [row_iff]; exact ⟨fun h => ⟨by omega, h.2⟩, fun h => ⟨by have := h.len; omega, h.bd⟩⟩

theorem Valid.at {N : Int} {arcs : List Arc} (h : Valid N arcs) {i : Nat} {a : Arc} (ha : arcs[i]? = some a) :
    0 ≤ a.src ∧ a.src < N ∧ 0 ≤ a.dst ∧ a.dst < N ∧ 0 ≤ a.lo ∧ a.lo ≤ 1000000 ∧ 0 ≤ a.hi ∧ a.hi ≤ 1000000 ∧ 0 ≤ a.loBy ∧ a.loBy ≤ 1000000 ∧ 0 ≤ a.hiBy ∧ a.hiBy ≤ 1000000 :=
  okArc_iff.1 (h.ok a (List.mem_of_getElem? ha))
theorem Amts.at {arcs : List Arc} {x : List Int} (h : Amts arcs x) {i : Nat} {y : Int} (hy : x[i]? = some y) : 0 ≤ y ∧ y ≤ 1000000 := h.bd y (List.mem_of_getElem? hy)

theorem ex_bd_take {N : Int} {arcs : List Arc} {x : List Int} (hV : Valid N arcs) (hx : Amts arcs x) (i v : Nat) :
    -4000000000 ≤ ex (arcs.take i) (x.take i) v ∧ ex (arcs.take i) (x.take i) v ≤ 4000000000 := by
  have h := ex_bd (arcs.take i) (x.take i) v 1000000 (by omega) (fun y hy => hx.bd y (List.mem_of_mem_take hy))
  have h1 : (x.take i).length ≤ 4000 := by
    have := hV.len; have := hx.len
    rw [List.length_take]; omega
  omega

theorem ex_step {as : List Arc} {ys : List Int} {i : Nat} {a : Arc} {y : Int} (ha : as[i]? = some a) (hy : ys[i]? = some y) (hd : 0 ≤ a.dst) (hs : 0 ≤ a.src) {f : Nat → Int} (hf : f = ex (as.take i) (ys.take i)) :
    upf (upf f a.dst.toNat (f a.dst.toNat + y)) a.src.toNat (upf f a.dst.toNat (f a.dst.toNat + y) a.src.toNat - y) = ex (as.take (i + 1)) (ys.take (i + 1)) := by
  obtain ⟨h1, rfl⟩ := List.getElem?_eq_some_iff.1 ha
  obtain ⟨h2, rfl⟩ := List.getElem?_eq_some_iff.1 hy
  subst hf
  funext v
  rw [ex_take as ys i v h1 h2]
  have e1 : (as[i].dst = (v : Int)) ↔ v = as[i].dst.toNat := by omega
  have e2 : (as[i].src = (v : Int)) ↔ v = as[i].src.toNat := by omega
  simp only [upf, e1, e2]
  by_cases c1 : v = as[i].dst.toNat <;> by_cases c2 : v = as[i].src.toNat
  · have c3 : as[i].src.toNat = as[i].dst.toNat := by omega
    simp only [c1, c3, if_true]; omega
  · have c3 : as[i].dst.toNat ≠ as[i].src.toNat := by omega
    simp only [c1, c3, if_true, if_false]; omega
  · have c3 : as[i].src.toNat ≠ as[i].dst.toNat := by omega
    simp only [c2, c3, if_true, if_false]; omega
  · simp only [c1, c2, if_false]; omega

theorem ex_nil (v : Nat) : ex [] [] v = 0 := rfl
theorem ex_zero (as : List Arc) (ys : List Int) : ex (as.take 0) (ys.take 0) = fun _ => 0 := by
  funext v; simp [ex]

/-! ### sums -/

/-- A list's number at a place (0 beyond its end). -/
def nth (l : List Int) (i : Nat) : Int := l.getD i 0
theorem nth_get {l : List Int} {i : Nat} (h : i < l.length) : l[i]? = some (nth l i) := by
  simp [nth, List.getD_eq_getElem?_getD, h]
theorem nth_of {l : List Int} {i : Nat} {x : Int} (h : l[i]? = some x) : nth l i = x := by
  simp [nth, List.getD_eq_getElem?_getD, h]

theorem mul_bd {r h A B : Int} (h1 : -A ≤ r ∧ r ≤ A) (h2 : 0 ≤ h ∧ h ≤ B) (hA : 0 ≤ A) : -(A * B) ≤ r * h ∧ r * h ≤ A * B := by
  have e1 : r * h ≤ A * h := Int.mul_le_mul_of_nonneg_right h1.2 h2.1
  have e2 : -A * h ≤ r * h := Int.mul_le_mul_of_nonneg_right h1.1 h2.1
  have e3 : A * h ≤ A * B := Int.mul_le_mul_of_nonneg_left h2.2 hA
  have e4 : -A * h = -(A * h) := Int.neg_mul ..
  omega

/-- The sum of products. -/
def dot : List Int → List Int → Int
  | y :: ys, z :: zs => y * z + dot ys zs
  | _, _ => 0
theorem dot_snoc : ∀ (ys zs : List Int) (y z : Int), ys.length = zs.length → dot (ys ++ [y]) (zs ++ [z]) = dot ys zs + y * z := by
  intro ys
  induction ys with
  | nil => intro zs y z h; cases zs with
    | nil => simp [dot]
    | cons => simp at h
  | cons a ys ih =>
    intro zs y z h
    cases zs with
    | nil => simp at h
    | cons b zs => simp only [List.cons_append, dot, ih zs y z (by simpa using h)]; omega
theorem dot_take {ys zs : List Int} {i : Nat} {y z : Int} (hy : ys[i]? = some y) (hz : zs[i]? = some z) : dot (ys.take (i + 1)) (zs.take (i + 1)) = dot (ys.take i) (zs.take i) + y * z := by
  obtain ⟨h1, rfl⟩ := List.getElem?_eq_some_iff.1 hy
  obtain ⟨h2, rfl⟩ := List.getElem?_eq_some_iff.1 hz
  rw [take_snoc ys i h1, take_snoc zs i h2, dot_snoc]
  simp; omega
theorem dot_bd : ∀ (ys zs : List Int) (A B : Int), 0 ≤ A → 0 ≤ B → (∀ y ∈ ys, -A ≤ y ∧ y ≤ A) → (∀ z ∈ zs, 0 ≤ z ∧ z ≤ B) → -(A * B * ys.length) ≤ dot ys zs ∧ dot ys zs ≤ A * B * ys.length := by
  intro ys
  induction ys with
  | nil => intro zs A B _ _ _ _; simp [dot]
  | cons y ys ih =>
    intro zs A B hA hB h1 h2
    have hAB : 0 ≤ A * B := Int.mul_nonneg hA hB
    have e : A * B * (((y :: ys).length : Nat) : Int) = A * B * (ys.length : Int) + A * B := by
      rw [List.length_cons, Int.natCast_add, Int.mul_add]; simp
    cases zs with
    | nil => simp only [dot]; have : 0 ≤ A * B * (((y :: ys).length : Nat) : Int) := Int.mul_nonneg hAB (by omega); omega
    | cons z zs =>
      have h3 := ih zs A B hA hB (fun q hq => h1 q (List.mem_cons_of_mem _ hq)) (fun q hq => h2 q (List.mem_cons_of_mem _ hq))
      have h4 := mul_bd (h1 y (List.mem_cons_self ..)) (h2 z (List.mem_cons_self ..)) hA
      simp only [dot]
      rw [e]
      omega

/-- Weights of a net. -/
structure Wts (arcs : List Arc) (x : List Int) : Prop where
  len : x.length = arcs.length
  bd : ∀ y ∈ x, -1000 ≤ y ∧ y ≤ 1000
/-- Potentials of a net. -/
structure Pts (N : Int) (x : List Int) : Prop where
  len : (x.length : Int) = N
  bd : ∀ y ∈ x, -10000000 ≤ y ∧ y ≤ 10000000
theorem row_wts {arcs : List Arc} {x : List Int} : row x arcs.length (-1000) 1000 = true ↔ Wts arcs x := by
  rw [row_iff]; exact ⟨fun h => ⟨by omega, h.2⟩, fun h => ⟨by have := h.len; omega, h.bd⟩⟩
theorem row_pts {N : Int} {x : List Int} : row x N (-10000000) 10000000 = true ↔ Pts N x := by
  rw [row_iff]; exact ⟨fun h => ⟨h.1, h.2⟩, fun h => ⟨h.len, h.bd⟩⟩
theorem Wts.at {arcs : List Arc} {x : List Int} (h : Wts arcs x) {i : Nat} {y : Int} (hy : x[i]? = some y) : -1000 ≤ y ∧ y ≤ 1000 := h.bd y (List.mem_of_getElem? hy)
theorem Pts.at {N : Int} {x : List Int} (h : Pts N x) (i : Nat) : -10000000 ≤ nth x i ∧ nth x i ≤ 10000000 := by
  by_cases hi : i < x.length
  · exact h.bd _ (List.mem_of_getElem? (nth_get hi))
  · simp [nth, List.getD_eq_getElem?_getD, List.getElem?_eq_none (Nat.le_of_not_lt hi)]

theorem dot_bd_take {ys zs : List Int} (hl : ys.length ≤ 4000) (h1 : ∀ y ∈ ys, -1000 ≤ y ∧ y ≤ 1000) (h2 : ∀ z ∈ zs, 0 ≤ z ∧ z ≤ 1000000) (i : Nat) :
    -4000000000000 ≤ dot (ys.take i) (zs.take i) ∧ dot (ys.take i) (zs.take i) ≤ 4000000000000 := by
  have h := dot_bd (ys.take i) (zs.take i) 1000 1000000 (by omega) (by omega) (fun y hy => h1 y (List.mem_of_mem_take hy)) (fun y hy => h2 y (List.mem_of_mem_take hy))
  have h3 : (ys.take i).length ≤ 4000 := by rw [List.length_take]; omega
  omega

/-- What an arc's weight is with potentials. -/
def rst (p : List Int) (a : Arc) (y : Int) : Int := y + nth p a.src.toNat - nth p a.dst.toNat
/-- What an arc adds to the bound. -/
def part (p : List Int) (a : Arc) (y : Int) : Int := if 0 < rst p a y then rst p a y * a.hi else if rst p a y < 0 then rst p a y * a.lo else 0
/-- The bound that potentials show. -/
def bnd (p : List Int) : List Arc → List Int → Int
  | a :: as, y :: ys => part p a y + bnd p as ys
  | _, _ => 0
/-- The ends that the bound uses. -/
def told1 (p : List Int) (a : Arc) (y : Int) : List (Arc × Bool) := if 0 < rst p a y then [(a, true)] else if rst p a y < 0 then [(a, false)] else []
def told (p : List Int) : List Arc → List Int → List (Arc × Bool)
  | a :: as, y :: ys => told1 p a y ++ told p as ys
  | _, _ => []

theorem bnd_snoc {p : List Int} : ∀ (as : List Arc) (ys : List Int) (a : Arc) (y : Int), as.length = ys.length → bnd p (as ++ [a]) (ys ++ [y]) = bnd p as ys + part p a y := by
  intro as
  induction as with
  | nil => intro ys a y h; cases ys with
    | nil => simp [bnd]
    | cons => simp at h
  | cons b as ih =>
    intro ys a y h
    cases ys with
    | nil => simp at h
    | cons z ys => simp only [List.cons_append, bnd, ih ys a y (by simpa using h)]; omega
theorem told_snoc {p : List Int} : ∀ (as : List Arc) (ys : List Int) (a : Arc) (y : Int), as.length = ys.length → told p (as ++ [a]) (ys ++ [y]) = told p as ys ++ told1 p a y := by
  intro as
  induction as with
  | nil => intro ys a y h; cases ys with
    | nil => simp [told]
    | cons => simp at h
  | cons b as ih =>
    intro ys a y h
    cases ys with
    | nil => simp at h
    | cons z ys => simp only [List.cons_append, told, ih ys a y (by simpa using h), List.append_assoc]
theorem bnd_take {p : List Int} {as : List Arc} {ys : List Int} {i : Nat} {a : Arc} {y : Int} (ha : as[i]? = some a) (hy : ys[i]? = some y) : bnd p (as.take (i + 1)) (ys.take (i + 1)) = bnd p (as.take i) (ys.take i) + part p a y := by
  obtain ⟨h1, rfl⟩ := List.getElem?_eq_some_iff.1 ha
  obtain ⟨h2, rfl⟩ := List.getElem?_eq_some_iff.1 hy
  rw [take_snoc as i h1, take_snoc ys i h2, bnd_snoc]
  simp; omega
theorem told_take {p : List Int} {as : List Arc} {ys : List Int} {i : Nat} {a : Arc} {y : Int} (ha : as[i]? = some a) (hy : ys[i]? = some y) : told p (as.take (i + 1)) (ys.take (i + 1)) = told p (as.take i) (ys.take i) ++ told1 p a y := by
  obtain ⟨h1, rfl⟩ := List.getElem?_eq_some_iff.1 ha
  obtain ⟨h2, rfl⟩ := List.getElem?_eq_some_iff.1 hy
  rw [take_snoc as i h1, take_snoc ys i h2, told_snoc]
  simp; omega
theorem part_bd {p : List Int} {a : Arc} {y r : Int} (hr : r = rst p a y) (h1 : -20001000 ≤ r ∧ r ≤ 20001000) (h2 : 0 ≤ a.lo ∧ a.lo ≤ 1000000) (h3 : 0 ≤ a.hi ∧ a.hi ≤ 1000000) :
    (-20001000000000 ≤ r * a.hi ∧ r * a.hi ≤ 20001000000000) ∧ (-20001000000000 ≤ r * a.lo ∧ r * a.lo ≤ 20001000000000) ∧ -20001000000000 ≤ part p a y ∧ part p a y ≤ 20001000000000 := by
  have e1 := mul_bd (A := 20001000) (B := 1000000) (by omega : -20001000 ≤ r ∧ r ≤ 20001000) h3 (by omega)
  have e2 := mul_bd (A := 20001000) (B := 1000000) (by omega : -20001000 ≤ r ∧ r ≤ 20001000) h2 (by omega)
  refine ⟨by omega, by omega, ?_⟩
  unfold part
  rw [← hr]
  split
  · omega
  · split <;> omega
theorem rst_bd {N : Int} {p : List Int} (hp : Pts N p) {a : Arc} {y : Int} (hy : -1000 ≤ y ∧ y ≤ 1000) : -20001000 ≤ rst p a y ∧ rst p a y ≤ 20001000 := by
  have h1 := hp.at a.src.toNat
  have h2 := hp.at a.dst.toNat
  unfold rst; omega
theorem bnd_bd {p : List Int} (B : Int) (hB : 0 ≤ B) : ∀ (as : List Arc) (ys : List Int), (∀ (i : Nat) (a : Arc) (y : Int), as[i]? = some a → ys[i]? = some y → -B ≤ part p a y ∧ part p a y ≤ B) → -(B * as.length) ≤ bnd p as ys ∧ bnd p as ys ≤ B * as.length := by
  intro as
  induction as with
  | nil => intro ys _; simp [bnd]
  | cons a as ih =>
    intro ys h
    have e : B * (((a :: as).length : Nat) : Int) = B * (as.length : Int) + B := by
      rw [List.length_cons, Int.natCast_add, Int.mul_add]; simp
    cases ys with
    | nil => simp only [bnd]; have : 0 ≤ B * (((a :: as).length : Nat) : Int) := Int.mul_nonneg hB (by omega); omega
    | cons y ys =>
      have h1 := ih ys fun i b z hb hz => h (i + 1) b z (by simpa using hb) (by simpa using hz)
      have h2 := h 0 a y rfl rfl
      simp only [bnd]
      rw [e]; omega
theorem bnd_bd_take {N : Int} {arcs : List Arc} {x p : List Int} (hV : Valid N arcs) (hx : Wts arcs x) (hp : Pts N p) (i : Nat) :
    -80004000000000000 ≤ bnd p (arcs.take i) (x.take i) ∧ bnd p (arcs.take i) (x.take i) ≤ 80004000000000000 := by
  have h := bnd_bd (p := p) 20001000000000 (by omega) (arcs.take i) (x.take i) fun j a y ha hy => by
    have ha' : arcs[j]? = some a := by rw [List.getElem?_take] at ha; split at ha <;> first | exact ha | cases ha
    have hy' : x[j]? = some y := by rw [List.getElem?_take] at hy; split at hy <;> first | exact hy | cases hy
    have hok := hV.at ha'
    exact (part_bd rfl (rst_bd hp (hx.at hy')) (by omega) (by omega)).2.2
  have h3 : (arcs.take i).length ≤ 4000 := by have := hV.len; rw [List.length_take]; omega
  omega

theorem part_pos {p : List Int} {a : Arc} {y : Int} (h : 0 < rst p a y) : part p a y = rst p a y * a.hi := if_pos h
theorem part_neg {p : List Int} {a : Arc} {y : Int} (h : rst p a y < 0) : part p a y = rst p a y * a.lo := by rw [part, if_neg (by omega), if_pos h]
theorem part_zero {p : List Int} {a : Arc} {y : Int} (h1 : ¬ 0 < rst p a y) (h2 : ¬ rst p a y < 0) : part p a y = 0 := by rw [part, if_neg h1, if_neg h2]
theorem told1_pos {p : List Int} {a : Arc} {y : Int} (h : 0 < rst p a y) : told1 p a y = [(a, true)] := if_pos h
theorem told1_neg {p : List Int} {a : Arc} {y : Int} (h : rst p a y < 0) : told1 p a y = [(a, false)] := by rw [told1, if_neg (by omega), if_pos h]
theorem told1_zero {p : List Int} {a : Arc} {y : Int} (h1 : ¬ 0 < rst p a y) (h2 : ¬ rst p a y < 0) : told1 p a y = [] := by rw [told1, if_neg h1, if_neg h2]

theorem idx_neg {α : Type} {p : α → Bool} {l : List α} (h : idx p l = -1) : ∀ x ∈ l, p x = false := by
  have h1 : ¬ l.any p = true := fun hh => by have := (idx_ge p l).2 hh; omega
  intro x hx
  cases hp : p x with
  | false => rfl
  | true => exact absurd (List.any_eq_true.2 ⟨x, hx, hp⟩) h1
theorem idx_pos {α : Type} {p : α → Bool} {l : List α} (h : ¬ idx p l = -1) : ∃ (i : Nat) (a : α), idx p l = i ∧ l[i]? = some a ∧ p a = true ∧ ∀ x ∈ l.take i, p x = false := by
  unfold idx at h ⊢
  cases hf : l.findIdx? p with
  | none => rw [hf] at h; exact absurd rfl h
  | some i =>
    obtain ⟨hi, h1, h2⟩ := List.findIdx?_eq_some_iff_getElem.1 hf
    refine ⟨i, l[i], rfl, List.getElem?_eq_getElem hi, h1, fun x hx => ?_⟩
    obtain ⟨j, hj, rfl⟩ := List.mem_iff_getElem.1 hx
    have hj' : j < i := by simp at hj; omega
    rw [List.getElem_take]
    simpa using h2 j hj'

theorem told1_len {p : List Int} {a : Arc} {y : Int} : (told1 p a y).length ≤ 1 := by
  unfold told1; split
  · simp
  · split <;> simp
theorem told_len {p : List Int} : ∀ (as : List Arc) (ys : List Int), (told p as ys).length ≤ as.length := by
  intro as
  induction as with
  | nil => intro ys; simp [told]
  | cons a as ih =>
    intro ys
    cases ys with
    | nil => simp [told]
    | cons y ys =>
      have h1 := ih ys
      have h2 := told1_len (p := p) (a := a) (y := y)
      simp only [told, List.length_append, List.length_cons]; omega

/-- The records of what is told. -/
def rec1 : Arc × Bool → List Int
  | (a, true) => [a.hiBy]
  | (a, false) => if 0 < a.lo then [a.loBy] else []
def recs (t : List (Arc × Bool)) : List Int := t.flatMap rec1
theorem recs_snoc (t : List (Arc × Bool)) (x : Arc × Bool) : recs (t ++ [x]) = recs t ++ rec1 x := by simp [recs]
theorem recs_len (t : List (Arc × Bool)) : (recs t).length ≤ t.length := by
  induction t with
  | nil => simp [recs]
  | cons x t ih =>
    have h : (rec1 x).length ≤ 1 := by
      obtain ⟨a, b⟩ := x
      cases b
      · simp only [rec1]; split <;> simp
      · simp [rec1]
    simp only [recs, List.flatMap_cons, List.length_append, List.length_cons] at ih ⊢; omega

/-- Records in ascending order, each once, without 0. -/
def lst (l : List Int) : List Int := Lib.compact ((l.filter fun x => !decide (x = 0)).mergeSort fun x y => decide (x ≤ y))
theorem lst_sorted (l : List Int) : (lst l).Pairwise (· < ·) := (compact_sorted (mergeSort_le _)).1
theorem mem_lst {l : List Int} {x : Int} : x ∈ lst l ↔ x ∈ l ∧ x ≠ 0 := by
  rw [lst, (compact_sorted (mergeSort_le _)).2 x, List.mem_mergeSort, List.mem_filter]; simp

/-! ### obstacles -/

/-- For each node whether it is in a list. -/
def mk (N : Int) (l : List Int) : List Bool := (List.range N.toNat).map fun (v : Nat) => decide ((v : Int) ∈ l)
theorem mk_length (N : Int) (l : List Int) : (mk N l).length = N.toNat := by simp [mk]
theorem mk_nil (N : Int) : mk N [] = List.replicate N.toNat false := by
  simp only [mk, List.not_mem_nil, decide_false, List.map_const', List.length_range]
theorem mk_get {N : Int} {l : List Int} {x : Int} (h : 0 ≤ x ∧ x < N) : (mk N l)[x.toNat]? = some (decide (x ∈ l)) := by
  have h1 : x.toNat < N.toNat := by omega
  have h2 : ((x.toNat : Nat) : Int) = x := by omega
  simp [mk, h1, h2]
theorem mk_set {N : Int} {l : List Int} {x : Int} (h : 0 ≤ x ∧ x < N) : (mk N l).set x.toNat true = mk N (l ++ [x]) := by
  apply List.ext_getElem?
  intro j
  simp only [mk, List.getElem?_set, List.getElem?_map, List.length_map, List.length_range, List.mem_append, List.mem_singleton]
  by_cases hj : j < N.toNat
  · by_cases e : x.toNat = j
    · have e' : (j : Int) = x := by omega
      have e2 : x.toNat < N.toNat := by omega
      rw [if_pos e, if_pos e2, List.getElem?_range hj]
      simp [e']
    · have e' : ¬ (j : Int) = x := by omega
      simp [e, hj, e']
  · by_cases e : x.toNat = j
    · omega
    · simp [e, hj]

/-- The arcs that lead out of nodes (true) or into them (false). -/
def cut1 (ns : List Int) (a : Arc) : List (Arc × Bool) := if decide (a.src ∈ ns) ≠ decide (a.dst ∈ ns) then [(a, decide (a.src ∈ ns))] else []
def cutl (ns : List Int) (as : List Arc) : List (Arc × Bool) := as.flatMap (cut1 ns)
theorem cutl_take {ns : List Int} {as : List Arc} {i : Nat} {a : Arc} (ha : as[i]? = some a) : cutl ns (as.take (i + 1)) = cutl ns (as.take i) ++ cut1 ns a := by
  obtain ⟨h1, rfl⟩ := List.getElem?_eq_some_iff.1 ha
  rw [cutl, take_snoc as i h1, List.flatMap_append]; simp [cutl]
theorem cutl_split {ns : List Int} {as : List Arc} {i : Nat} : cutl ns as = cutl ns (as.take i) ++ cutl ns (as.drop i) := by
  rw [cutl, cutl, cutl, ← List.flatMap_append, List.take_append_drop]
theorem cutl_len (ns : List Int) (as : List Arc) : (cutl ns as).length ≤ as.length := by
  induction as with
  | nil => simp [cutl]
  | cons a as ih =>
    have h : (cut1 ns a).length ≤ 1 := by unfold cut1; split <;> simp
    simp only [cutl, List.flatMap_cons, List.length_append, List.length_cons] at ih ⊢; omega
theorem mem_cutl {ns : List Int} {as : List Arc} {a : Arc} {o : Bool} (h : (a, o) ∈ cutl ns as) : a ∈ as := by
  simp only [cutl, List.mem_flatMap] at h
  obtain ⟨c, hc, h⟩ := h
  unfold cut1 at h
  split at h
  · simp at h; obtain ⟨rfl, _⟩ := h; exact hc
  · cases h

/-- What has to go out of the nodes less what can go into them. -/
def csum1 : Arc × Bool → Int
  | (a, true) => a.lo
  | (a, false) => -a.hi
def csum (t : List (Arc × Bool)) : Int := (t.map csum1).foldl (· + ·) 0
theorem csum_snoc (t : List (Arc × Bool)) (x : Arc × Bool) : csum (t ++ [x]) = csum t + csum1 x := by simp [csum]
theorem csum_bd (t : List (Arc × Bool)) (h : ∀ x ∈ t, -1000000 ≤ csum1 x ∧ csum1 x ≤ 1000000) : ∀ i, i ≤ t.length → -(1000000 * (i : Int)) ≤ csum (t.take i) ∧ csum (t.take i) ≤ 1000000 * (i : Int) := by
  intro i
  induction i with
  | zero => intro _; simp [csum]
  | succ i ih =>
    intro hi
    have h1 := ih (by omega)
    rw [take_snoc t i (by omega), csum_snoc]
    have h2 := h t[i] (List.getElem_mem _)
    omega
theorem csum_bd_prefix {N : Int} {arcs : List Arc} (hV : Valid N arcs) {ns : List Int} {t s : List (Arc × Bool)} {x : Arc × Bool} (h : cutl ns arcs = t ++ x :: s) :
    (-4000000000 ≤ csum t ∧ csum t ≤ 4000000000) ∧ -1000000 ≤ csum1 x ∧ csum1 x ≤ 1000000 := by
  have hall : ∀ x ∈ cutl ns arcs, -1000000 ≤ csum1 x ∧ csum1 x ≤ 1000000 := by
    rintro ⟨a, o⟩ hx
    have h1 := okArc_iff.1 (hV.ok a (mem_cutl hx))
    cases o <;> simp only [csum1] <;> omega
  have hl := cutl_len ns arcs
  have hV' := hV.len
  have h2 : t.length ≤ (cutl ns arcs).length := by rw [h]; simp
  have h3 := csum_bd _ hall t.length h2
  have h4 : (cutl ns arcs).take t.length = t := by rw [h, List.take_left]
  rw [h4] at h3
  exact ⟨by omega, hall x (by rw [h]; simp)⟩

/-- Ascending, above a number, below N. -/
def asc (N : Int) : Int → List Int → Bool
  | _, [] => true
  | last, v :: vs => decide (last + 1 ≤ v ∧ v ≤ N - 1) && asc N v vs
theorem asc_mem {N : Int} : ∀ (l : List Int) (last : Int), asc N last l = true → ∀ v ∈ l, last + 1 ≤ v ∧ v ≤ N - 1 := by
  intro l
  induction l with
  | nil => intro last _ v hv; cases hv
  | cons a l ih =>
    intro last h v hv
    simp only [asc, Bool.and_eq_true, decide_eq_true_eq] at h
    rcases List.mem_cons.1 hv with rfl | hv
    · exact h.1
    · have := ih a h.2 v hv; omega

/-- Is arc A's least amount above its greatest? -/
def bad (arcs : List Arc) (A : Int) : Bool := decide (0 ≤ A ∧ A ≤ (arcs.length : Int) - 1) && (match arcs[A.toNat]? with | some a => decide (a.hi < a.lo) | none => false)
/-- Is something an obstacle? -/
def hind (N : Int) (arcs : List Arc) (A : Int) (ns : List Int) : Bool :=
  if A ≠ -1 then decide ((ns.length : Int) = 0) && bad arcs A else asc N (-1) ns && decide (0 < csum (cutl ns arcs))

theorem hind_bad {N : Int} {arcs : List Arc} {A : Int} {ns : List Int} (h : hind N arcs A ns = true) (hA : 0 ≤ A) : ∃ a, arcs[A.toNat]? = some a ∧ a.hi < a.lo := by
  rw [hind, if_pos (by omega)] at h
  simp only [bad, Bool.and_eq_true, decide_eq_true_eq] at h
  obtain ⟨a, ha⟩ : ∃ a, arcs[A.toNat]? = some a := ⟨_, List.getElem?_eq_getElem (by omega)⟩
  rw [ha] at h
  exact ⟨a, ha, by simpa using h.2.2⟩
theorem hind_cut {N : Int} {arcs : List Arc} {A : Int} {ns : List Int} (h : hind N arcs A ns = true) (hA : ¬ 0 ≤ A) : A = -1 ∧ asc N (-1) ns = true ∧ 0 < csum (cutl ns arcs) := by
  by_cases e : A = -1
  · rw [hind, if_neg (by omega)] at h
    simp only [Bool.and_eq_true, decide_eq_true_eq] at h
    exact ⟨e, h⟩
  · rw [hind, if_pos e] at h
    simp only [bad, Bool.and_eq_true, decide_eq_true_eq] at h
    omega
/-- The records on which an obstacle rests, as they are met. -/
def orecs (t : List (Arc × Bool)) : List Int := recs (t.map fun x => (x.1, !x.2))
theorem orecs_snoc (t : List (Arc × Bool)) (x : Arc × Bool) : orecs (t ++ [x]) = orecs t ++ rec1 (x.1, !x.2) := by simp [orecs, recs]
theorem orecs_len (t : List (Arc × Bool)) : (orecs t).length ≤ t.length := by
  have := recs_len (t.map fun x => (x.1, !x.2)); simpa [orecs] using this
/-- The records of an obstacle. -/
def orec (arcs : List Arc) (A : Int) (ns : List Int) : List Int :=
  if 0 ≤ A then (match arcs[A.toNat]? with | some a => lst [a.loBy, a.hiBy] | none => []) else lst (orecs (cutl ns arcs))

/-! ### steps -/

/-- The cost of a step along an arc. -/
def cst (p : Nat → Int) (a : Arc) (q : Int) : Int := p a.src.toNat - p a.dst.toNat - q
def fwd (p : Nat → Int) (i : Nat) (a : Arc) (q : Int) : Stp := ⟨i, false, a.src, a.dst, cst p a q⟩
def bwd (p : Nat → Int) (i : Nat) (a : Arc) (q : Int) : Stp := ⟨i, true, a.dst, a.src, -cst p a q⟩
def stp1 (p : Nat → Int) (i : Nat) (a : Arc) (y q : Int) : List Stp := (if y < a.hi then [fwd p i a q] else []) ++ (if a.lo < y then [bwd p i a q] else [])
/-- The steps that amounts leave. -/
def stps (p : Nat → Int) : Nat → List Arc → List Int → List Int → List Stp
  | i, a :: as, y :: ys, q :: qs => stp1 p i a y q ++ stps p (i + 1) as ys qs
  | _, _, _, _ => []

theorem stps_split (p : Nat → Int) : ∀ (i k : Nat) (as : List Arc) (ys qs : List Int), stps p k as ys qs = stps p k (as.take i) (ys.take i) (qs.take i) ++ stps p (k + i) (as.drop i) (ys.drop i) (qs.drop i) := by
  intro i
  induction i with
  | zero => intro k as ys qs; simp [stps]
  | succ i ih =>
    intro k as ys qs
    cases as with
    | nil => simp [stps]
    | cons a as =>
      cases ys with
      | nil => simp [stps]
      | cons y ys =>
        cases qs with
        | nil => simp [stps]
        | cons q qs =>
          have e : k + (i + 1) = (k + 1) + i := by omega
          simp only [List.take_succ_cons, List.drop_succ_cons, stps, List.append_assoc]
          rw [ih (k + 1) as ys qs, e]
theorem stps_at (p : Nat → Int) {k i : Nat} {as : List Arc} {ys qs : List Int} {a : Arc} {y q : Int} (ha : as[i]? = some a) (hy : ys[i]? = some y) (hq : qs[i]? = some q) :
    stps p k (as.drop i) (ys.drop i) (qs.drop i) = stp1 p k a y q ++ stps p (k + 1) (as.drop (i + 1)) (ys.drop (i + 1)) (qs.drop (i + 1)) := by
  obtain ⟨h1, rfl⟩ := List.getElem?_eq_some_iff.1 ha
  obtain ⟨h2, rfl⟩ := List.getElem?_eq_some_iff.1 hy
  obtain ⟨h3, rfl⟩ := List.getElem?_eq_some_iff.1 hq
  rw [List.drop_eq_getElem_cons h1, List.drop_eq_getElem_cons h2, List.drop_eq_getElem_cons h3]
  rfl
theorem stps_take (p : Nat → Int) {i : Nat} {as : List Arc} {ys qs : List Int} {a : Arc} {y q : Int} (ha : as[i]? = some a) (hy : ys[i]? = some y) (hq : qs[i]? = some q) :
    stps p 0 (as.take (i + 1)) (ys.take (i + 1)) (qs.take (i + 1)) = stps p 0 (as.take i) (ys.take i) (qs.take i) ++ stp1 p i a y q := by
  have h := stps_split p i 0 (as.take (i + 1)) (ys.take (i + 1)) (qs.take (i + 1))
  have ha' : (as.take (i + 1))[i]? = some a := by rw [List.getElem?_take, if_pos (by omega)]; exact ha
  have hy' : (ys.take (i + 1))[i]? = some y := by rw [List.getElem?_take, if_pos (by omega)]; exact hy
  have hq' : (qs.take (i + 1))[i]? = some q := by rw [List.getElem?_take, if_pos (by omega)]; exact hq
  rw [stps_at p ha' hy' hq', List.take_take, List.take_take, List.take_take, Nat.min_eq_left (by omega)] at h
  rw [h]
  have e : (as.take (i + 1)).drop (i + 1) = [] := List.drop_eq_nil_of_le (by simp; omega)
  rw [e]
  simp [stps]
theorem stps_mid (p : Nat → Int) {i : Nat} {as : List Arc} {ys qs : List Int} {a : Arc} {y q : Int} (ha : as[i]? = some a) (hy : ys[i]? = some y) (hq : qs[i]? = some q) :
    ∃ s, stps p 0 as ys qs = stps p 0 (as.take i) (ys.take i) (qs.take i) ++ (stp1 p i a y q ++ s) := by
  have h := stps_split p i 0 as ys qs
  rw [stps_at p ha hy hq, Nat.zero_add] at h
  exact ⟨_, h⟩
theorem mem_stps {p : Nat → Int} {s : Stp} : ∀ {as : List Arc} {ys qs : List Int} {k : Nat}, s ∈ stps p k as ys qs → ∃ (i : Nat) (a : Arc) (y q : Int), as[i]? = some a ∧ ys[i]? = some y ∧ qs[i]? = some q ∧ s ∈ stp1 p (k + i) a y q := by
  intro as
  induction as with
  | nil => intro ys qs k h; simp [stps] at h
  | cons a as ih =>
    intro ys qs k h
    cases ys with
    | nil => simp [stps] at h
    | cons y ys =>
      cases qs with
      | nil => simp [stps] at h
      | cons q qs =>
        simp only [stps, List.mem_append] at h
        rcases h with h | h
        · exact ⟨0, a, y, q, rfl, rfl, rfl, h⟩
        · obtain ⟨i, a', y', q', h1, h2, h3, h4⟩ := ih h
          have e : k + 1 + i = k + (i + 1) := by omega
          rw [e] at h4
          exact ⟨i + 1, a', y', q', by simpa using h1, by simpa using h2, by simpa using h3, h4⟩
theorem mem_stps_of {p : Nat → Int} {s : Stp} {as : List Arc} {ys qs : List Int} {i : Nat} {a : Arc} {y q : Int} (ha : as[i]? = some a) (hy : ys[i]? = some y) (hq : qs[i]? = some q) (h : s ∈ stp1 p i a y q) : s ∈ stps p 0 as ys qs := by
  obtain ⟨t, e⟩ := stps_mid p ha hy hq
  rw [e]
  simp only [List.mem_append]
  exact .inr (.inl h)
theorem mem_stp1 {p : Nat → Int} {s : Stp} {i : Nat} {a : Arc} {y q : Int} : s ∈ stp1 p i a y q ↔ (y < a.hi ∧ s = fwd p i a q) ∨ (a.lo < y ∧ s = bwd p i a q) := by
  unfold stp1
  rw [List.mem_append]
  constructor
  · rintro (h | h)
    · split at h
      · rename_i hc; exact .inl ⟨hc, by simpa using h⟩
      · cases h
    · split at h
      · rename_i hc; exact .inr ⟨hc, by simpa using h⟩
      · cases h
  · rintro (⟨h1, rfl⟩ | ⟨h1, rfl⟩)
    · left; rw [if_pos h1]; simp
    · right; rw [if_pos h1]; simp
theorem stps_len (p : Nat → Int) : ∀ (k : Nat) (as : List Arc) (ys qs : List Int), (stps p k as ys qs).length ≤ 2 * as.length := by
  intro k as
  induction as generalizing k with
  | nil => intro ys qs; simp [stps]
  | cons a as ih =>
    intro ys qs
    cases ys with
    | nil => simp [stps]
    | cons y ys =>
      cases qs with
      | nil => simp [stps]
      | cons q qs =>
        have h := ih (k + 1) ys qs
        have h1 : (stp1 p k a y q).length ≤ 2 := by unfold stp1; split <;> split <;> simp
        simp only [stps, List.length_append, List.length_cons]; omega

/-- The steps by their first nodes. -/
def byl (N : Int) (t : List Stp) : List (List Stp) := (List.range N.toNat).map fun (v : Nat) => t.filter fun s => decide (s.src = (v : Int))
theorem byl_nil (N : Int) : byl N [] = List.replicate N.toNat [] := by simp [byl, List.map_const']
theorem byl_get {N : Int} {t : List Stp} {v : Nat} (h : v < N.toNat) : (byl N t)[v]? = some (t.filter fun s => decide (s.src = (v : Int))) := by simp [byl, h]
theorem byl_snoc {N : Int} {t : List Stp} {s : Stp} (h : 0 ≤ s.src ∧ s.src < N) : (byl N t).set s.src.toNat ((t.filter fun u => decide (u.src = ((s.src.toNat : Nat) : Int))) ++ [s]) = byl N (t ++ [s]) := by
  apply List.ext_getElem?
  intro j
  simp only [byl, List.getElem?_set, List.getElem?_map, List.length_map, List.length_range]
  by_cases hj : j < N.toNat
  · by_cases e : s.src.toNat = j
    · have e' : s.src = (j : Int) := by omega
      have e2 : s.src.toNat < N.toNat := by omega
      rw [if_pos e, if_pos e2, List.getElem?_range hj]
      simp [e']
    · have e' : ¬ s.src = (j : Int) := by omega
      simp [e, hj, e']
  · by_cases e : s.src.toNat = j
    · omega
    · simp [e, hj]

theorem stps_ok {N : Int} {arcs : List Arc} (hV : Valid N arcs) {p : Nat → Int} {x wl : List Int} {s : Stp} (h : s ∈ stps p 0 arcs x wl) :
    0 ≤ s.src ∧ s.src < N ∧ 0 ≤ s.dst ∧ s.dst < N ∧ 0 ≤ s.arc ∧ s.arc < arcs.length := by
  obtain ⟨i, a, y, q, ha, _, _, hs⟩ := mem_stps h
  have hok := hV.at ha
  have hi := (List.getElem?_eq_some_iff.1 ha).1
  rcases mem_stp1.1 hs with ⟨_, rfl⟩ | ⟨_, rfl⟩ <;> simp only [fwd, bwd] <;> omega

/-- The error of a net, and 1 if it has none but something is not so. -/
def askd (N : Int) (arcs : List Arc) (p : Bool) : Int := if chk N arcs ≠ 0 then chk N arcs else if p = true then 0 else 1
theorem askd_zero {N : Int} {arcs : List Arc} {p : Bool} : askd N arcs p = 0 ↔ Valid N arcs ∧ p = true := by
  rw [← chk_zero, askd]
  split
  · rename_i h; exact ⟨fun h1 => absurd h1 h, fun h1 => absurd h1.1 h⟩
  · rename_i h; cases p <;> simp at h ⊢; exact h

end Flow
end Go.Vk

/- Nets, as plain mathematics, part 2: cheapest ways. No program in sight. -/
namespace Go.Vk.Flow
open Go

def far : Int := 1152921504606846976
def isD (dn : List Bool) (v : Nat) : Prop := dn[v]? = some true

theorem nth_set {l : List Int} {i v : Nat} {x : Int} (h : i < l.length) : nth (l.set i x) v = if v = i then x else nth l v := by
  simp only [nth, List.getD_eq_getElem?_getD, List.getElem?_set]
  by_cases e : v = i
  · subst e; simp [h]
  · have : ¬ i = v := fun q => e q.symm
    simp [e, this]

/-- While the cheapest ways are looked for. Q: which steps from nodes that are done have been followed. -/
structure Dj (n : Nat) (st : List Stp) (mo : Nat → Int) (cost : List Int) (last : List Stp) (dn : List Bool) (k : Nat) (rk : Nat → Nat) (Q : Nat → Stp → Prop) : Prop where
  lc : cost.length = n
  ll : last.length = n
  ld : dn.length = n
  cnt : dn.count true = k
  rkl : ∀ v, isD dn v → rk v < k
  nonneg : ∀ v, v < n → 0 ≤ nth cost v
  src : ∀ v, v < n → 0 < mo v → nth cost v = 0
  fin : ∀ v, v < n → nth cost v < far → ∀ s, last[v]? = some s → (s.arc = -1 ∧ nth cost v = 0 ∧ 0 < mo v) ∨
    (0 ≤ s.arc ∧ s ∈ st ∧ s.dst = (v : Int) ∧ isD dn s.src.toNat ∧ nth cost v = nth cost s.src.toNat + s.cost ∧ (isD dn v → rk s.src.toNat < rk v))
  big : ∀ v, v < n → nth cost v ≤ far
  ofin : ∀ v, isD dn v → nth cost v < far
  bd : ∀ v, v < n → nth cost v < far → nth cost v ≤ 2000000 * k ∧ (isD dn v → nth cost v ≤ 2000000 * rk v)
  mono : ∀ u v, isD dn u → v < n → ¬ isD dn v → nth cost u ≤ nth cost v
  relaxed : ∀ u s, isD dn u → s ∈ st → s.src = (u : Int) → Q u s → nth cost s.dst.toNat ≤ nth cost u + s.cost

theorem isD_lt {dn : List Bool} {v : Nat} (h : isD dn v) : v < dn.length := (List.getElem?_eq_some_iff.1 h).1
theorem isD_set {dn : List Bool} {v u : Nat} (h : v < dn.length) : isD (dn.set v true) u ↔ u = v ∨ isD dn u := by
  unfold isD
  rw [List.getElem?_set]
  by_cases e : v = u
  · subst e; simp [h]
  · have : ¬ u = v := fun q => e q.symm
    simp [e, this]
theorem count_set {dn : List Bool} {v : Nat} (h : dn[v]? = some false) : (dn.set v true).count true = dn.count true + 1 := by
  obtain ⟨hl, he⟩ := List.getElem?_eq_some_iff.1 h
  rw [List.count_set hl]
  simp [he]
theorem count_lt {dn : List Bool} {v : Nat} (h : dn[v]? = some false) : dn.count true < dn.length := by
  have h1 := count_set h
  have h2 : (dn.set v true).count true ≤ (dn.set v true).length := List.count_le_length
  rw [List.length_set] at h2
  omega

section
variable {n : Nat} {st : List Stp} {mo : Nat → Int} {cost : List Int} {last : List Stp} {dn : List Bool} {k : Nat} {rk : Nat → Nat} {Q Q' : Nat → Stp → Prop}

/-- A node is done. -/
theorem Dj.pick (h : Dj n st mo cost last dn k rk fun _ _ => True) {v : Nat} (hv : v < n) (hd : dn[v]? = some false) (hf : nth cost v < far) (hmin : ∀ u, u < n → ¬ isD dn u → nth cost v ≤ nth cost u) :
    Dj n st mo cost last (dn.set v true) (k + 1) (fun u => if u = v then k else rk u) (fun u _ => u ≠ v) ∧ ∀ u, isD (dn.set v true) u → nth cost u ≤ nth cost v := by
  have hl : v < dn.length := by rw [h.ld]; exact hv
  have hnd : ¬ isD dn v := by unfold isD; rw [hd]; simp
  have hset : ∀ u, isD (dn.set v true) u ↔ u = v ∨ isD dn u := fun u => isD_set hl
  refine ⟨⟨h.lc, h.ll, by rw [List.length_set]; exact h.ld, by rw [count_set hd, h.cnt], fun u hu => ?_, h.nonneg, h.src, fun u hu hfu s hs => ?_, h.big, fun u hu => ?_, fun u hu hfu => ?_, fun u x hu hx hnx => ?_, fun u s hu hs hsu hq => ?_⟩, fun u hu => ?_⟩
  · rcases (hset u).1 hu with rfl | hu
    · simp
    · have := h.rkl u hu
      have hne : u ≠ v := fun e => hnd (e ▸ hu)
      simp only [hne, if_false]; omega
  · rcases h.fin u hu hfu s hs with h1 | ⟨h1, h2, h3, h4, h5, h6⟩
    · exact .inl h1
    · refine .inr ⟨h1, h2, h3, (hset _).2 (.inr h4), h5, fun hu' => ?_⟩
      have hne : s.src.toNat ≠ v := fun e => hnd (e ▸ h4)
      have h7 := h.rkl _ h4
      rcases (hset u).1 hu' with rfl | hu''
      · simp only [hne, if_false, if_true]; exact h7
      · have hne2 : u ≠ v := fun e => hnd (e ▸ hu'')
        simp only [hne, hne2, if_false]; exact h6 hu''
  · rcases (hset u).1 hu with rfl | hu
    · exact hf
    · exact h.ofin u hu
  · have h1 := h.bd u hu hfu
    refine ⟨by omega, fun hu' => ?_⟩
    rcases (hset u).1 hu' with rfl | hu'
    · simp only [if_true]; exact h1.1
    · have hne : u ≠ v := fun e => hnd (e ▸ hu')
      simp only [hne, if_false]; exact h1.2 hu'
  · have hnx' : ¬ isD dn x := fun q => hnx ((hset x).2 (.inr q))
    rcases (hset u).1 hu with rfl | hu
    · exact hmin x hx hnx'
    · exact h.mono u x hu hx hnx'
  · rcases (hset u).1 hu with rfl | hu
    · exact absurd rfl hq
    · exact h.relaxed u s hu hs hsu trivial
  · rcases (hset u).1 hu with rfl | hu
    · exact Int.le_refl _
    · exact h.mono u v hu hv hnd

/-- A step from the node that was done last is followed. -/
theorem Dj.relax (h : Dj n st mo cost last dn k rk Q) {v : Nat} {s : Stp} (hv : isD dn v) (htop : ∀ u, isD dn u → nth cost u ≤ nth cost v) (hs : s ∈ st) (hsv : s.src = (v : Int)) (hd : 0 ≤ s.dst ∧ s.dst < n)
    (hc : 0 ≤ s.cost ∧ s.cost ≤ 2000000) (harc : 0 ≤ s.arc) (hk : rk v + 1 = k) (hn : k ≤ 1000) (hQ' : ∀ u t, Q' u t → Q u t ∨ (u = v ∧ t = s)) (hlt : nth cost v + s.cost < nth cost s.dst.toNat) :
    Dj n st mo (cost.set s.dst.toNat (nth cost v + s.cost)) (last.set s.dst.toNat s) dn k rk Q' ∧ (∀ u, isD dn u → nth (cost.set s.dst.toNat (nth cost v + s.cost)) u ≤ nth (cost.set s.dst.toNat (nth cost v + s.cost)) v) := by
  have hvn : v < n := by have := isD_lt hv; rw [h.ld] at this; exact this
  have hto : s.dst.toNat < n := by omega
  have htl : s.dst.toNat < cost.length := by rw [h.lc]; exact hto
  have hnd : ¬ isD dn s.dst.toNat := fun q => by have := htop _ q; omega
  have hns : ∀ u, nth (cost.set s.dst.toNat (nth cost v + s.cost)) u = if u = s.dst.toNat then nth cost v + s.cost else nth cost u := fun u => nth_set htl
  have hD : ∀ u, isD dn u → u ≠ s.dst.toNat := fun u hu e => hnd (e ▸ hu)
  have hnv := h.nonneg v hvn
  have hbv := (h.bd v hvn (h.ofin v hv)).2 hv
  have hfar : far = 1152921504606846976 := rfl
  have hvs : v = s.src.toNat := by omega
  refine ⟨⟨by rw [List.length_set]; exact h.lc, by rw [List.length_set]; exact h.ll, h.ld, h.cnt, h.rkl, fun u hu => ?_, fun u hu hm => ?_, fun u hu hfu t ht => ?_, fun u hu => ?_, fun u hu => ?_, fun u hu hfu => ?_, fun u x hu hx hnx => ?_, fun u t hu ht htu hq => ?_⟩, fun u hu => ?_⟩
  · rw [hns]; split
    · omega
    · exact h.nonneg u hu
  · rw [hns]; split
    · rename_i e; subst e
      have := h.src _ hu hm; omega
    · exact h.src u hu hm
  · rw [hns] at hfu
    rw [hns]
    rw [List.getElem?_set] at ht
    by_cases e : u = s.dst.toNat
    · subst e
      simp only [h.ll, hto, if_true] at ht
      have ht' : t = s := Option.some.inj ht.symm
      subst ht'
      rw [if_pos rfl]
      refine .inr ⟨harc, hs, by omega, hvs ▸ hv, ?_, fun q => absurd q hnd⟩
      rw [hns, ← hvs, if_neg (hD v hv)]
    · have e' : ¬ s.dst.toNat = u := fun q => e q.symm
      rw [if_neg e'] at ht
      rw [if_neg e] at hfu ⊢
      rcases h.fin u hu hfu t ht with h1 | ⟨h1, h2, h3, h4, h5, h6⟩
      · exact .inl h1
      · refine .inr ⟨h1, h2, h3, h4, ?_, h6⟩
        rw [hns, if_neg (hD _ h4)]; exact h5
  · rw [hns]; split
    · omega
    · exact h.big u hu
  · rw [hns, if_neg (hD u hu)]; exact h.ofin u hu
  · rw [hns] at hfu ⊢
    split
    · rename_i e; subst e
      exact ⟨by omega, fun q => absurd q hnd⟩
    · rename_i e
      rw [if_neg e] at hfu
      exact h.bd u hu hfu
  · rw [hns, hns, if_neg (hD u hu)]
    split
    · have := htop u hu; omega
    · exact h.mono u x hu hx hnx
  · rw [hns, hns, if_neg (hD u hu)]
    rcases hQ' u t hq with hq | ⟨rfl, rfl⟩
    · have := h.relaxed u t hu ht htu hq
      split
      · rename_i e; rw [e] at this; omega
      · exact this
    · rw [if_pos rfl]; exact Int.le_refl _
  · rw [hns, hns, if_neg (hD u hu), if_neg (hD v hv)]; exact htop u hu

/-- A step that is no cheaper. -/
theorem Dj.keep (h : Dj n st mo cost last dn k rk Q) {v : Nat} {s : Stp} (hQ' : ∀ u t, Q' u t → Q u t ∨ (u = v ∧ t = s)) (hlt : ¬ nth cost v + s.cost < nth cost s.dst.toNat) : Dj n st mo cost last dn k rk Q' :=
  ⟨h.lc, h.ll, h.ld, h.cnt, h.rkl, h.nonneg, h.src, h.fin, h.big, h.ofin, h.bd, h.mono, fun u t hu ht htu hq => by
    rcases hQ' u t hq with hq | ⟨rfl, rfl⟩
    · exact h.relaxed u t hu ht htu hq
    · omega⟩
theorem Dj.more (h : Dj n st mo cost last dn k rk Q) (hQ : ∀ (u : Nat) (t : Stp), t ∈ st → t.src = (u : Int) → Q' u t → Q u t) : Dj n st mo cost last dn k rk Q' :=
  ⟨h.lc, h.ll, h.ld, h.cnt, h.rkl, h.nonneg, h.src, h.fin, h.big, h.ofin, h.bd, h.mono, fun u t hu ht htu hq => h.relaxed u t hu ht htu (hQ u t ht htu hq)⟩
end

/-- The costs at first. -/
def cost0 (n : Nat) (mo : Nat → Int) (i : Nat) : List Int := (List.range n).map fun v => if v < i ∧ 0 < mo v then 0 else far
def last0 (n : Nat) (mo : Nat → Int) (i : Nat) : List Stp := (List.range n).map fun v => if v < i ∧ 0 < mo v then ⟨-1, false, 0, 0, 0⟩ else ⟨0, false, 0, 0, 0⟩
section
variable {n : Nat} {mo : Nat → Int} {i : Nat}
theorem map_set {α : Type} {n i : Nat} {f g : Nat → α} {x : α} (hi : i < n) (hx : g i = x) (h : ∀ v, v ≠ i → f v = g v) : ((List.range n).map f).set i x = (List.range n).map g := by
  apply List.ext_getElem?
  intro j
  rw [List.getElem?_set]
  by_cases e : i = j
  · subst e; simp [hi, hx]
  · simp only [e, if_false, List.getElem?_map]
    by_cases hj : j < n
    · simp [hj, h j (fun q => e q.symm)]
    · simp [hj]
theorem cost0_zero : cost0 n mo 0 = List.replicate n far := by simp [cost0, List.map_const']
theorem last0_zero : last0 n mo 0 = List.replicate n ⟨0, false, 0, 0, 0⟩ := by simp [last0, List.map_const']
theorem cost0_set (hi : i < n) (hm : 0 < mo i) : (cost0 n mo i).set i 0 = cost0 n mo (i + 1) :=
  map_set hi (by rw [if_pos ⟨by omega, hm⟩]) fun v hv => by
    by_cases c : v < i
    · have : v < i + 1 := by omega
      simp [c, this]
    · have : ¬ v < i + 1 := by omega
      simp [c, this]
theorem last0_set (hi : i < n) (hm : 0 < mo i) : (last0 n mo i).set i ⟨-1, false, 0, 0, 0⟩ = last0 n mo (i + 1) :=
  map_set hi (by rw [if_pos ⟨by omega, hm⟩]) fun v hv => by
    by_cases c : v < i
    · have : v < i + 1 := by omega
      simp [c, this]
    · have : ¬ v < i + 1 := by omega
      simp [c, this]
theorem cost0_same (hm : ¬ 0 < mo i) : cost0 n mo i = cost0 n mo (i + 1) := by
  apply List.map_congr_left
  intro v _
  by_cases e : v = i
  · subst e; simp [hm]
  · by_cases c : v < i
    · have : v < i + 1 := by omega
      simp [c, this]
    · have : ¬ v < i + 1 := by omega
      simp [c, this]
theorem last0_same (hm : ¬ 0 < mo i) : last0 n mo i = last0 n mo (i + 1) := by
  apply List.map_congr_left
  intro v _
  by_cases e : v = i
  · subst e; simp [hm]
  · by_cases c : v < i
    · have : v < i + 1 := by omega
      simp [c, this]
    · have : ¬ v < i + 1 := by omega
      simp [c, this]
theorem cost0_get (hi : i < n) (k : Nat) : (cost0 n mo k)[i]? = some (if i < k ∧ 0 < mo i then 0 else far) := by simp [cost0, hi]
theorem last0_get (hi : i < n) (k : Nat) : (last0 n mo k)[i]? = some (if i < k ∧ 0 < mo i then ⟨-1, false, 0, 0, 0⟩ else ⟨0, false, 0, 0, 0⟩) := by simp [last0, hi]

theorem last0_fresh (hi : i < n) : (last0 n mo i)[i]? = some ⟨0, false, 0, 0, 0⟩ := by rw [last0_get hi, if_neg (by omega)]

theorem Dj.start (n : Nat) (st : List Stp) (mo : Nat → Int) : Dj n st mo (cost0 n mo n) (last0 n mo n) (List.replicate n false) 0 (fun _ => 0) fun _ _ => True := by
  have hnD : ∀ v, ¬ isD (List.replicate n false) v := by
    intro v hv
    unfold isD at hv
    rw [List.getElem?_replicate] at hv
    split at hv <;> simp at hv
  have hc : ∀ v, v < n → nth (cost0 n mo n) v = if 0 < mo v then 0 else far := by
    intro v hv
    rw [nth_of (cost0_get hv n)]
    simp [hv]
  have hfar : far = 1152921504606846976 := rfl
  refine ⟨by simp [cost0], by simp [last0], by simp, by simp [List.count_replicate], fun v hv => absurd hv (hnD v), fun v hv => ?_, fun v hv hm => ?_, fun v hv hf s hs => ?_, fun v hv => ?_, fun v hv => absurd hv (hnD v), fun v hv hf => ?_, fun u v hu => absurd hu (hnD u), fun u s hu => absurd hu (hnD u)⟩
  · rw [hc v hv]; split <;> omega
  · rw [hc v hv, if_pos hm]
  · rw [hc v hv] at hf
    rw [last0_get hv n] at hs
    by_cases hm : 0 < mo v
    · left
      rw [if_pos ⟨hv, hm⟩] at hs
      have : s = ⟨-1, false, 0, 0, 0⟩ := Option.some.inj hs.symm
      subst this
      exact ⟨rfl, by rw [hc v hv, if_pos hm], hm⟩
    · rw [if_neg hm] at hf; omega
  · rw [hc v hv]; split <;> omega
  · rw [hc v hv] at hf ⊢
    split at hf
    · rename_i hm; rw [if_pos hm]; exact ⟨by omega, fun q => absurd q (hnD v)⟩
    · omega
end

/-- The cheapest node of those below i that are not done (-1: none). -/
def Mn (cost : List Int) (dn : List Bool) (i : Nat) (v : Int) : Prop :=
  (v = -1 ∧ ∀ u, u < i → ¬ isD dn u → ¬ nth cost u < far) ∨
  ∃ v0 : Nat, v = (v0 : Int) ∧ v0 < i ∧ dn[v0]? = some false ∧ nth cost v0 < far ∧ ∀ u, u < i → ¬ isD dn u → nth cost v0 ≤ nth cost u
section
variable {cost : List Int} {dn : List Bool} {i : Nat} {v : Int} {d : Bool}
theorem notD (hd : dn[i]? = some false) : ¬ isD dn i := by unfold isD; rw [hd]; simp
theorem Mn.zero : Mn cost dn 0 (-1) := .inl ⟨rfl, fun u h => absurd h (Nat.not_lt_zero u)⟩
theorem Mn.lt (h : Mn cost dn i v) : -1 ≤ v ∧ v < i := by
  rcases h with ⟨rfl, _⟩ | ⟨v0, rfl, h1, _⟩ <;> omega
theorem Mn.skipD (h : Mn cost dn i v) (hd : dn[i]? = some true) : Mn cost dn (i + 1) v := by
  have key : ∀ u, u < i + 1 → ¬ isD dn u → u < i := fun u hu hnd => by
    have : u ≠ i := fun e => hnd (e ▸ hd)
    omega
  rcases h with ⟨h1, h2⟩ | ⟨v0, h1, h2, h3, h4, h5⟩
  · exact .inl ⟨h1, fun u hu hnd => h2 u (key u hu hnd) hnd⟩
  · exact .inr ⟨v0, h1, by omega, h3, h4, fun u hu hnd => h5 u (key u hu hnd) hnd⟩
theorem Mn.skipF (h : Mn cost dn i v) (hf : ¬ nth cost i < far) : Mn cost dn (i + 1) v := by
  rcases h with ⟨h1, h2⟩ | ⟨v0, h1, h2, h3, h4, h5⟩
  · refine .inl ⟨h1, fun u hu hnd => ?_⟩
    rcases Nat.lt_or_ge u i with hu' | hu'
    · exact h2 u hu' hnd
    · have : u = i := by omega
      subst this; exact hf
  · refine .inr ⟨v0, h1, by omega, h3, h4, fun u hu hnd => ?_⟩
    rcases Nat.lt_or_ge u i with hu' | hu'
    · exact h5 u hu' hnd
    · have : u = i := by omega
      subst this; omega
theorem Mn.keep (h : Mn cost dn i v) (hv : ¬ v < 0) (hc : ¬ nth cost i < nth cost v.toNat) : Mn cost dn (i + 1) v := by
  rcases h with ⟨h1, h2⟩ | ⟨v0, h1, h2, h3, h4, h5⟩
  · omega
  · subst h1
    refine .inr ⟨v0, rfl, by omega, h3, h4, fun u hu hnd => ?_⟩
    rcases Nat.lt_or_ge u i with hu' | hu'
    · exact h5 u hu' hnd
    · have : u = i := by omega
      subst this
      rw [Int.toNat_natCast] at hc; omega
theorem Mn.take1 (h : Mn cost dn i v) (hv : v < 0) (hd : dn[i]? = some false) (hf : nth cost i < far) : Mn cost dn (i + 1) (i : Int) := by
  rcases h with ⟨h1, h2⟩ | ⟨v0, h1, _⟩
  · refine .inr ⟨i, rfl, by omega, hd, hf, fun u hu hnd => ?_⟩
    rcases Nat.lt_or_ge u i with hu' | hu'
    · have := h2 u hu' hnd; omega
    · have : u = i := by omega
      subst this; exact Int.le_refl _
  · omega
theorem Mn.take2 (h : Mn cost dn i v) (hv : ¬ v < 0) (hd : dn[i]? = some false) (hf : nth cost i < far) (hc : nth cost i < nth cost v.toNat) : Mn cost dn (i + 1) (i : Int) := by
  rcases h with ⟨h1, h2⟩ | ⟨v0, h1, h2, h3, h4, h5⟩
  · omega
  · subst h1
    rw [Int.toNat_natCast] at hc
    refine .inr ⟨i, rfl, by omega, hd, hf, fun u hu hnd => ?_⟩
    rcases Nat.lt_or_ge u i with hu' | hu'
    · have := h5 u hu' hnd; omega
    · have : u = i := by omega
      subst this; exact Int.le_refl _
end

def Tp (cost : List Int) (dn : List Bool) (v : Nat) : Prop := ∀ u, isD dn u → nth cost u ≤ nth cost v
theorem Qstep {L0 : List Stp} {i v0 : Nat} {s : Stp} (hs : L0[i]? = some s) : ∀ (u : Nat) (t : Stp), (u ≠ v0 ∨ t ∈ L0.take (i + 1)) → (u ≠ v0 ∨ t ∈ L0.take i) ∨ (u = v0 ∧ t = s) := by
  intro u t h
  obtain ⟨hil, he⟩ := List.getElem?_eq_some_iff.1 hs
  by_cases e : u = v0
  · rcases h with h | h
    · exact absurd e h
    · rw [take_snoc L0 i hil, List.mem_append] at h
      rcases h with h | h
      · exact .inl (.inr h)
      · exact .inr ⟨e, by simpa [he] using h⟩
  · exact .inl (.inl e)
theorem Qend {st L0 : List Stp} {v0 : Nat} (hL0 : L0 = st.filter fun s => decide (s.src = (v0 : Int))) : ∀ (u : Nat) (t : Stp), t ∈ st → t.src = (u : Int) → True → (u ≠ v0 ∨ t ∈ L0) := by
  intro u t ht htu _
  by_cases e : u = v0
  · subst e; right; rw [hL0]; exact List.mem_filter.2 ⟨ht, by simpa using htu⟩
  · exact .inl e

/-- What nearest finds. -/
structure Nearest (n : Nat) (st : List Stp) (mo : Nat → Int) (cost : List Int) (last : List Stp) (rk : Nat → Nat) : Prop where
  lc : cost.length = n
  ll : last.length = n
  nonneg : ∀ v, v < n → 0 ≤ nth cost v
  src : ∀ v, v < n → 0 < mo v → nth cost v = 0
  big : ∀ v, v < n → nth cost v ≤ far
  bd : ∀ v, v < n → nth cost v < far → nth cost v ≤ 2000000000
  fin : ∀ v, v < n → nth cost v < far → ∀ s, last[v]? = some s → (s.arc = -1 ∧ nth cost v = 0 ∧ 0 < mo v) ∨
    (0 ≤ s.arc ∧ s ∈ st ∧ s.dst = (v : Int) ∧ nth cost s.src.toNat < far ∧ nth cost v = nth cost s.src.toNat + s.cost ∧ rk s.src.toNat < rk v)
  rkl : ∀ v, v < n → nth cost v < far → rk v < n
  relaxed : ∀ s, s ∈ st → nth cost s.src.toNat < far → nth cost s.dst.toNat ≤ nth cost s.src.toNat + s.cost

theorem Dj.done {n : Nat} {st : List Stp} {mo : Nat → Int} {cost : List Int} {last : List Stp} {dn : List Bool} {k : Nat} {rk : Nat → Nat} (h : Dj n st mo cost last dn k rk fun _ _ => True) (hn : n ≤ 1000)
    (hst : ∀ s, s ∈ st → 0 ≤ s.src ∧ s.src < n) (hall : ∀ v, v < n → ¬ isD dn v → ¬ nth cost v < far) : Nearest n st mo cost last rk := by
  have hD : ∀ v, v < n → nth cost v < far → isD dn v := fun v hv hf => Classical.byContradiction fun q => hall v hv q hf
  have hk : k ≤ n := by rw [← h.cnt, ← h.ld]; exact List.count_le_length
  refine ⟨h.lc, h.ll, h.nonneg, h.src, h.big, fun v hv hf => ?_, fun v hv hf s hs => ?_, fun v hv hf => ?_, fun s hs hf => ?_⟩
  · have := (h.bd v hv hf).1; omega
  · rcases h.fin v hv hf s hs with h1 | ⟨h1, h2, h3, h4, h5, h6⟩
    · exact .inl h1
    · exact .inr ⟨h1, h2, h3, h.ofin _ h4, h5, h6 (hD v hv hf)⟩
  · have := h.rkl v (hD v hv hf); omega
  · have h1 := hst s hs
    have hs' : s.src = ((s.src.toNat : Nat) : Int) := by omega
    exact h.relaxed _ s (hD _ (by omega) hf) hs hs' trivial
end Go.Vk.Flow

/- Nets, as plain mathematics, part 3: what is led along a cheapest way. No program in sight. -/
namespace Go.Vk.Flow
open Go

/-- Amounts between the bounds of their arcs. -/
def Bds (arcs : List Arc) (x : List Int) : Prop := x.length = arcs.length ∧ ∀ (i : Nat) (a : Arc) (y : Int), arcs[i]? = some a → x[i]? = some y → a.lo ≤ y ∧ y ≤ a.hi

/-- The state of a net with amounts: no step has a cost below 0. -/
structure Cn (N : Int) (arcs : List Arc) (wl : List Int) (x : List Int) (mo p : Nat → Int) : Prop where
  bds : Bds arcs x
  meq : mo = ex arcs x
  red : ∀ s, s ∈ stps p 0 arcs x wl → 0 ≤ s.cost
  pb : ∀ v, 0 ≤ p v ∧ p v ≤ 1000000
  pz : ∀ v, v < N.toNat → 0 < mo v → p v = 0
  pd : ∃ D, (∀ v, p v ≤ D) ∧ ∀ v, v < N.toNat → mo v < 0 → p v = D

section
variable {N : Int} {arcs : List Arc} {wl x : List Int} {mo p : Nat → Int}

theorem Cn.amts (h : Cn N arcs wl x mo p) (hV : Valid N arcs) : Amts arcs x := by
  refine ⟨h.bds.1, fun y hy => ?_⟩
  obtain ⟨i, hi, rfl⟩ := List.mem_iff_getElem.1 hy
  obtain ⟨a, ha⟩ : ∃ a, arcs[i]? = some a := ⟨_, List.getElem?_eq_getElem (by rw [← h.bds.1]; exact hi)⟩
  have h1 := h.bds.2 i a _ ha (List.getElem?_eq_getElem hi)
  have h2 := hV.at ha
  omega

theorem Cn.cost (h : Cn N arcs wl x mo p) (hw : Wts arcs wl) : ∀ s, s ∈ stps p 0 arcs x wl → 0 ≤ s.cost ∧ s.cost ≤ 2000000 := by
  intro s hs
  refine ⟨h.red s hs, ?_⟩
  obtain ⟨i, a, y, q, _, _, hq, hs1⟩ := mem_stps hs
  have hqb := hw.at hq
  have h1 := h.pb a.src.toNat
  have h2 := h.pb a.dst.toNat
  rcases mem_stp1.1 hs1 with ⟨_, rfl⟩ | ⟨_, rfl⟩ <;> simp only [fwd, bwd, cst] <;> omega

/-- A step's ends, and its cost, by the costs of its nodes. -/
theorem step_cost (hw : Wts arcs wl) {s : Stp} (hs : s ∈ stps p 0 arcs x wl) : ∃ d : Int, -1000 ≤ d ∧ d ≤ 1000 ∧ ∀ p' : Nat → Int, ∃ c', (⟨s.arc, s.back, s.src, s.dst, c'⟩ : Stp) ∈ stps p' 0 arcs x wl ∧ c' = p' s.src.toNat - p' s.dst.toNat + d ∧ (p' = p → c' = s.cost) := by
  obtain ⟨i, a, y, q, ha, hy, hq, hs1⟩ := mem_stps hs
  have hqb := hw.at hq
  rw [Nat.zero_add] at hs1
  rcases mem_stp1.1 hs1 with ⟨h1, rfl⟩ | ⟨h1, rfl⟩
  · exact ⟨-q, by omega, by omega, fun p' => ⟨cst p' a q, mem_stps_of ha hy hq (mem_stp1.2 (.inl ⟨h1, rfl⟩)), by simp only [cst, fwd]; omega, fun e => by subst e; rfl⟩⟩
  · exact ⟨q, by omega, by omega, fun p' => ⟨-cst p' a q, mem_stps_of ha hy hq (mem_stp1.2 (.inr ⟨h1, rfl⟩)), by simp only [cst, bwd]; omega, fun e => by subst e; rfl⟩⟩

variable {cost : List Int} {last : List Stp} {rk : Nat → Nat}

/-- A node's cost is bounded by the length of the way to it. -/
theorem way_bd (h : Cn N arcs wl x mo p) (hV : Valid N arcs) (hw : Wts arcs wl) (hn : Nearest N.toNat (stps p 0 arcs x wl) mo cost last rk) :
    ∀ (r v : Nat), rk v ≤ r → v < N.toNat → nth cost v < far → p v + nth cost v ≤ 1000 * rk v := by
  intro r
  induction r with
  | zero =>
    intro v hr hv hf
    obtain ⟨s, hs⟩ : ∃ s, last[v]? = some s := ⟨_, List.getElem?_eq_getElem (by rw [hn.ll]; exact hv)⟩
    rcases hn.fin v hv hf s hs with ⟨_, h2, h3⟩ | ⟨_, _, _, _, _, h6⟩
    · have := h.pz v hv h3; omega
    · omega
  | succ r ih =>
    intro v hr hv hf
    obtain ⟨s, hs⟩ : ∃ s, last[v]? = some s := ⟨_, List.getElem?_eq_getElem (by rw [hn.ll]; exact hv)⟩
    rcases hn.fin v hv hf s hs with ⟨_, h2, h3⟩ | ⟨_, h2, h3, h4, h5, h6⟩
    · have := h.pz v hv h3; omega
    · have hok := stps_ok hV h2
      have h7 := ih s.src.toNat (by omega) (by omega) h4
      obtain ⟨d, d1, d2, hd⟩ := step_cost hw h2
      obtain ⟨c', _, hc, he⟩ := hd p
      have := he rfl
      have hv' : s.dst.toNat = v := by omega
      rw [hv'] at hc
      omega

/-- The costs of nodes behind a search. -/
def nextp (n : Nat) (cost : List Int) (K : Int) (p : Nat → Int) : Nat → Int := fun v => if v < n then p v + min (nth cost v) K else p v

theorem nextp_red (h : Cn N arcs wl x mo p) (hV : Valid N arcs) (hw : Wts arcs wl) (hn : Nearest N.toNat (stps p 0 arcs x wl) mo cost last rk) {K : Int} (hK : K < far) :
    ∀ s, s ∈ stps (nextp N.toNat cost K p) 0 arcs x wl → 0 ≤ s.cost := by
  intro s hs
  have hok := stps_ok hV hs
  obtain ⟨d, _, _, hd⟩ := step_cost hw hs
  obtain ⟨c, hc1, hc2, _⟩ := hd p
  obtain ⟨c', _, hc4, hc5⟩ := hd (nextp N.toNat cost K p)
  have hc6 := hc5 rfl
  have hcost := h.red _ hc1
  have h1 : s.src.toNat < N.toNat := by omega
  have h2 : s.dst.toNat < N.toNat := by omega
  simp only [nextp, h1, h2, if_true] at hc4
  simp only at hcost
  by_cases hf : nth cost s.src.toNat < far
  · have := hn.relaxed _ hc1 hf
    simp only at this
    omega
  · have h3 := hn.big _ h1
    omega

/-- The steps of the way are tight behind the search. -/
theorem nextp_tight (h : Cn N arcs wl x mo p) (hV : Valid N arcs) (hw : Wts arcs wl) (hn : Nearest N.toNat (stps p 0 arcs x wl) mo cost last rk) {K : Int} {v : Nat} {s : Stp} (hv : v < N.toNat) (hf : nth cost v < far) (hvK : nth cost v ≤ K)
    (hs : last[v]? = some s) (ha : 0 ≤ s.arc) : nth cost s.src.toNat ≤ K ∧ (⟨s.arc, s.back, s.src, s.dst, 0⟩ : Stp) ∈ stps (nextp N.toNat cost K p) 0 arcs x wl := by
  rcases hn.fin v hv hf s hs with ⟨h1, _⟩ | ⟨_, h2, h3, h4, h5, h6⟩
  · omega
  · have hok := stps_ok hV h2
    have hc0 := h.red s h2
    refine ⟨by omega, ?_⟩
    obtain ⟨d, _, _, hd⟩ := step_cost hw h2
    obtain ⟨c, _, hc2, hc3⟩ := hd p
    obtain ⟨c', hc4, hc5, _⟩ := hd (nextp N.toNat cost K p)
    have hc6 := hc3 rfl
    have h1 : s.src.toNat < N.toNat := by omega
    have h2' : s.dst.toNat < N.toNat := by omega
    have hv' : s.dst.toNat = v := by omega
    simp only [nextp, h1, h2', if_true] at hc5
    rw [hv'] at hc5 hc2
    have : c' = 0 := by omega
    subst this
    exact hc4
end

/-- The cheapest of the nodes below i of which P holds (-1: none). -/
def Mp (cost : List Int) (Q : Nat → Prop) (i : Nat) (v : Int) : Prop :=
  (v = -1 ∧ ∀ u, u < i → Q u → ¬ nth cost u < far) ∨ ∃ v0 : Nat, v = (v0 : Int) ∧ v0 < i ∧ Q v0 ∧ nth cost v0 < far ∧ ∀ u, u < i → Q u → nth cost v0 ≤ nth cost u
section
variable {cost : List Int} {Q : Nat → Prop} {i : Nat} {v : Int}
theorem Mp.zero : Mp cost Q 0 (-1) := .inl ⟨rfl, fun u h => absurd h (Nat.not_lt_zero u)⟩
theorem Mp.lt (h : Mp cost Q i v) : -1 ≤ v ∧ v < i := by
  rcases h with ⟨rfl, _⟩ | ⟨v0, rfl, h1, _⟩ <;> omega
theorem Mp.skip (h : Mp cost Q i v) (hq : ¬ Q i) : Mp cost Q (i + 1) v := by
  have key : ∀ u, u < i + 1 → Q u → u < i := fun u hu hqu => by
    have : u ≠ i := fun e => hq (e ▸ hqu)
    omega
  rcases h with ⟨h1, h2⟩ | ⟨v0, h1, h2, h3, h4, h5⟩
  · exact .inl ⟨h1, fun u hu hqu => h2 u (key u hu hqu) hqu⟩
  · exact .inr ⟨v0, h1, by omega, h3, h4, fun u hu hqu => h5 u (key u hu hqu) hqu⟩
theorem Mp.skipF (h : Mp cost Q i v) (hf : ¬ nth cost i < far) : Mp cost Q (i + 1) v := by
  rcases h with ⟨h1, h2⟩ | ⟨v0, h1, h2, h3, h4, h5⟩
  · refine .inl ⟨h1, fun u hu hqu => ?_⟩
    rcases Nat.lt_or_ge u i with hu' | hu'
    · exact h2 u hu' hqu
    · have : u = i := by omega
      subst this; exact hf
  · refine .inr ⟨v0, h1, by omega, h3, h4, fun u hu hqu => ?_⟩
    rcases Nat.lt_or_ge u i with hu' | hu'
    · exact h5 u hu' hqu
    · have : u = i := by omega
      subst this; omega
theorem Mp.keep (h : Mp cost Q i v) (hv : ¬ v < 0) (hc : ¬ nth cost i < nth cost v.toNat) : Mp cost Q (i + 1) v := by
  rcases h with ⟨h1, h2⟩ | ⟨v0, h1, h2, h3, h4, h5⟩
  · omega
  · subst h1
    refine .inr ⟨v0, rfl, by omega, h3, h4, fun u hu hqu => ?_⟩
    rcases Nat.lt_or_ge u i with hu' | hu'
    · exact h5 u hu' hqu
    · have : u = i := by omega
      subst this
      rw [Int.toNat_natCast] at hc; omega
theorem Mp.take1 (h : Mp cost Q i v) (hv : v < 0) (hq : Q i) (hf : nth cost i < far) : Mp cost Q (i + 1) (i : Int) := by
  rcases h with ⟨h1, h2⟩ | ⟨v0, h1, _⟩
  · refine .inr ⟨i, rfl, by omega, hq, hf, fun u hu hqu => ?_⟩
    rcases Nat.lt_or_ge u i with hu' | hu'
    · have := h2 u hu' hqu; omega
    · have : u = i := by omega
      subst this; exact Int.le_refl _
  · omega
theorem Mp.take2 (h : Mp cost Q i v) (hv : ¬ v < 0) (hq : Q i) (hf : nth cost i < far) (hc : nth cost i < nth cost v.toNat) : Mp cost Q (i + 1) (i : Int) := by
  rcases h with ⟨h1, h2⟩ | ⟨v0, h1, h2, h3, h4, h5⟩
  · omega
  · subst h1
    rw [Int.toNat_natCast] at hc
    refine .inr ⟨i, rfl, by omega, hq, hf, fun u hu hqu => ?_⟩
    rcases Nat.lt_or_ge u i with hu' | hu'
    · have := h5 u hu' hqu; omega
    · have : u = i := by omega
      subst this; exact Int.le_refl _
end

theorem nextp_zero {cost : List Int} {K : Int} {p : Nat → Int} : nextp 0 cost K p = p := by funext v; simp [nextp]
theorem nextp_step {cost : List Int} {K : Int} {p : Nat → Int} {i : Nat} : upf (nextp i cost K p) i (nextp i cost K p i + min (nth cost i) K) = nextp (i + 1) cost K p := by
  funext v
  simp only [upf, nextp]
  by_cases e : v = i
  · subst e; simp
  · by_cases c : v < i
    · have : v < i + 1 := by omega
      simp [e, c, this]
    · have : ¬ v < i + 1 := by omega
      simp [e, c, this]

/-- Back along the way. -/
inductive Trail (last : List Stp) : Nat → Nat → Prop
  | refl (v : Nat) : Trail last v v
  | step {v u : Nat} {s : Stp} : last[v]? = some s → 0 ≤ s.arc → Trail last s.src.toNat u → Trail last v u

theorem Trail.snoc {last : List Stp} {v u : Nat} (h : Trail last v u) {s : Stp} (hs : last[u]? = some s) (ha : 0 ≤ s.arc) : Trail last v s.src.toNat := by
  induction h with
  | refl v => exact .step hs ha (.refl _)
  | step h1 h2 _ ih => exact .step h1 h2 (ih hs)
theorem Trail.stop {last : List Stp} {v u : Nat} (h : Trail last v u) {s : Stp} (hs : last[v]? = some s) (ha : s.arc < 0) : u = v := by
  cases h with
  | refl => rfl
  | step h1 h2 _ => rw [hs] at h1; cases h1; omega
theorem Trail.split {last : List Stp} {v u : Nat} (h : Trail last v u) {s : Stp} (hs : last[v]? = some s) : u = v ∨ Trail last s.src.toNat u := by
  cases h with
  | refl => exact .inl rfl
  | step h1 h2 h3 => rw [hs] at h1; cases h1; exact .inr h3

section
variable {N : Int} {arcs : List Arc} {wl x : List Int} {mo p : Nat → Int} {cost : List Int} {last : List Stp} {rk : Nat → Nat} {st : List Stp} {n : Nat}
theorem Trail.facts (hn : Nearest n st mo cost last rk) (hst : ∀ s, s ∈ st → 0 ≤ s.src ∧ s.src < n ∧ 0 ≤ s.cost) {v u : Nat} (h : Trail last v u) : v < n → nth cost v < far → u < n ∧ nth cost u < far ∧ nth cost u ≤ nth cost v ∧ rk u ≤ rk v := by
  induction h with
  | refl v => intro h1 h2; exact ⟨h1, h2, Int.le_refl _, Nat.le_refl _⟩
  | step h1 h2 _ ih =>
    intro hv hf
    rcases hn.fin _ hv hf _ h1 with ⟨h3, _⟩ | ⟨_, h4, h5, h6, h7, h8⟩
    · omega
    · have h9 := hst _ h4
      have h10 := ih (by omega) h6
      exact ⟨h10.1, h10.2.1, by omega, by omega⟩

/-- How much more a step carries. -/
def ResOk (arcs : List Arc) (x : List Int) (much : Int) (s : Stp) : Prop :=
  ∀ (a : Arc) (y : Int), arcs[s.arc.toNat]? = some a → x[s.arc.toNat]? = some y → (s.back = true → much ≤ y - a.lo) ∧ (s.back = false → much ≤ a.hi - y)
theorem ResOk.le {much much' : Int} {s : Stp} (h : ResOk arcs x much s) (hm : much' ≤ much) : ResOk arcs x much' s := fun a y ha hy => by
  obtain ⟨h1, h2⟩ := h a y ha hy
  exact ⟨fun hb => by have := h1 hb; omega, fun hb => by have := h2 hb; omega⟩

theorem ResOk.of {much : Int} {s : Stp} {a : Arc} {y : Int} (ha : arcs[s.arc.toNat]? = some a) (hy : x[s.arc.toNat]? = some y) (h1 : s.back = true → much ≤ y - a.lo) (h2 : s.back = false → much ≤ a.hi - y) : ResOk arcs x much s := by
  intro a' y' ha' hy'
  have e1 : a' = a := Option.some.inj (ha'.symm.trans ha)
  have e2 : y' = y := Option.some.inj (hy'.symm.trans hy)
  subst e1; subst e2
  exact ⟨h1, h2⟩
/-- What a step's arc is, and that it carries more. -/
theorem step_arc {s : Stp} (h : s ∈ stps p 0 arcs x wl) : ∃ a y, arcs[s.arc.toNat]? = some a ∧ x[s.arc.toNat]? = some y ∧
    ((s.back = true ∧ a.lo < y ∧ s.src = a.dst ∧ s.dst = a.src) ∨ (s.back = false ∧ y < a.hi ∧ s.src = a.src ∧ s.dst = a.dst)) := by
  obtain ⟨i, a, y, q, ha, hy, hq, hs1⟩ := mem_stps h
  rw [Nat.zero_add] at hs1
  rcases mem_stp1.1 hs1 with ⟨h1, rfl⟩ | ⟨h1, rfl⟩
  · exact ⟨a, y, ha, hy, .inr ⟨rfl, h1, rfl, rfl⟩⟩
  · exact ⟨a, y, ha, hy, .inl ⟨rfl, h1, rfl, rfl⟩⟩

/-- No two steps of a way go along one arc. -/
theorem way_inj (hV : Valid N arcs) (hn : Nearest N.toNat (stps p 0 arcs x wl) mo cost last rk) (hst : ∀ s, s ∈ stps p 0 arcs x wl → 0 ≤ s.cost) {at_ v : Nat} {s t : Stp} (hv : at_ < N.toNat) (hf : nth cost at_ < far)
    (hs : last[at_]? = some s) (ha : 0 ≤ s.arc) (hr : Trail last s.src.toNat v) (ht : last[v]? = some t) : t.arc ≠ s.arc := by
  intro e
  rcases hn.fin _ hv hf _ hs with ⟨h3, _⟩ | ⟨_, h4, h5, h6, h7, h8⟩
  · omega
  · have hok := stps_ok hV h4
    have hst' : ∀ s, s ∈ stps p 0 arcs x wl → 0 ≤ s.src ∧ s.src < N.toNat ∧ 0 ≤ s.cost := fun s hs => by
      have h1 := stps_ok hV hs; have h2 := hst s hs; omega
    obtain ⟨k1, k2, _, k4⟩ := hr.facts hn hst' (by omega) h6
    rcases hn.fin _ k1 k2 _ ht with ⟨h3, _⟩ | ⟨_, m4, m5, m6, m7, m8⟩
    · omega
    · have hokt := stps_ok hV m4
      obtain ⟨a, y, b1, b2, b3⟩ := step_arc h4
      obtain ⟨a', y', c1, c2, c3⟩ := step_arc m4
      rw [e] at c1
      have : a' = a := Option.some.inj (c1.symm.trans b1)
      subst this
      rcases b3 with ⟨_, _, g1, g2⟩ | ⟨_, _, g1, g2⟩ <;> rcases c3 with ⟨_, _, f1, f2⟩ | ⟨_, _, f1, f2⟩
      · have : v = at_ := by omega
        subst this; omega
      · have e1 : t.src.toNat = at_ := by omega
        rw [e1] at m8; omega
      · have e1 : t.src.toNat = at_ := by omega
        rw [e1] at m8; omega
      · have : v = at_ := by omega
        subst this; omega
end

theorem ex_set : ∀ (as : List Arc) (ys : List Int) (i : Nat) (a : Arc) (y z : Int) (v : Nat), as[i]? = some a → ys[i]? = some y → ex as (ys.set i z) v = ex as ys v + ((if a.dst = v then z - y else 0) - (if a.src = v then z - y else 0)) := by
  intro as
  induction as with
  | nil => intro ys i a y z v h; simp at h
  | cons b as ih =>
    intro ys i a y z v h1 h2
    cases ys with
    | nil => simp at h2
    | cons u ys =>
      cases i with
      | zero =>
        simp at h1 h2; subst h1; subst h2
        simp only [List.set_cons_zero, ex]
        split <;> split <;> omega
      | succ i =>
        simp only [List.set_cons_succ, ex, ih ys i a y z v (by simpa using h1) (by simpa using h2)]
        omega

/-- While what is led is laid on the steps of the way, from its end. -/
structure Aug (arcs : List Arc) (wl x : List Int) (much : Int) (p' : Nat → Int) (last : List Stp) (to at_ : Nat) (x' : List Int) : Prop where
  len : x'.length = x.length
  same : ∀ v t, Trail last at_ v → last[v]? = some t → 0 ≤ t.arc → x'[t.arc.toNat]? = x[t.arc.toNat]?
  exq : ∀ v : Nat, ex arcs x' v = ex arcs x v + (if v = to then much else 0) - (if v = at_ then much else 0)
  bds : Bds arcs x'
  red : ∀ s, s ∈ stps p' 0 arcs x' wl → 0 ≤ s.cost

section
variable {N : Int} {arcs : List Arc} {wl x x' : List Int} {mo p p' : Nat → Int} {cost : List Int} {last : List Stp} {rk : Nat → Nat} {to at_ : Nat} {much : Int}

theorem Aug.start (hb : Bds arcs x) (hr : ∀ s, s ∈ stps p' 0 arcs x wl → 0 ≤ s.cost) : Aug arcs wl x much p' last to to x :=
  ⟨rfl, fun _ _ _ _ _ => rfl, fun v => by split <;> omega, hb, hr⟩

theorem Aug.step (h : Aug arcs wl x much p' last to at_ x') (hV : Valid N arcs) {s : Stp} {y : Int} (hs : last[at_]? = some s) (ha : 0 ≤ s.arc) (hm : 0 ≤ much)
    (hin : s ∈ stps p 0 arcs x wl) (hdst : s.dst = (at_ : Int)) (htight : (⟨s.arc, s.back, s.src, s.dst, 0⟩ : Stp) ∈ stps p' 0 arcs x wl) (hres : ResOk arcs x much s)
    (hinj : ∀ v t, Trail last s.src.toNat v → last[v]? = some t → 0 ≤ t.arc → t.arc ≠ s.arc) (hy : x'[s.arc.toNat]? = some y) {z : Int} (hz : (s.back = true ∧ z = y - much) ∨ (s.back = false ∧ z = y + much)) :
    Aug arcs wl x much p' last to s.src.toNat (x'.set s.arc.toNat z) := by
  have hok := stps_ok hV hin
  obtain ⟨a, y0, ha0, hy0, hcase⟩ := step_arc hin
  have hyy : y0 = y := by
    have := h.same at_ s (.refl _) hs ha
    rw [hy, hy0] at this
    exact (Option.some.inj this).symm
  subst hyy
  have hil := (List.getElem?_eq_some_iff.1 hy).1
  have hr0 := hres a y0 ha0 hy0
  have hb0 := h.bds.2 _ a y0 ha0 hy
  refine ⟨by rw [List.length_set]; exact h.len, fun v t hv ht hta => ?_, fun v => ?_, ⟨by rw [List.length_set]; exact h.bds.1, fun i b u hbi hui => ?_⟩, fun t ht => ?_⟩
  · have hne := hinj v t hv ht hta
    have hok2 : s.arc.toNat ≠ t.arc.toNat := by omega
    rw [List.getElem?_set_ne hok2]
    exact h.same v t (.step hs ha hv) ht hta
  · rw [ex_set arcs x' s.arc.toNat a y0 z v ha0 hy, h.exq v]
    have e1 : (a.dst = (v : Int)) ↔ v = a.dst.toNat := by have := hV.at ha0; omega
    have e2 : (a.src = (v : Int)) ↔ v = a.src.toNat := by have := hV.at ha0; omega
    simp only [e1, e2]
    rcases hcase with ⟨hb, _, g1, g2⟩ | ⟨hb, _, g1, g2⟩ <;> rcases hz with ⟨hb2, rfl⟩ | ⟨hb2, rfl⟩
    · have f1 : s.src.toNat = a.dst.toNat := by omega
      have f2 : at_ = a.src.toNat := by omega
      rw [f1, f2]
      by_cases c1 : v = a.dst.toNat <;> by_cases c2 : v = a.src.toNat <;> simp only [c1, c2, if_true, if_false] <;> split <;> omega
    · rw [hb] at hb2; cases hb2
    · rw [hb] at hb2; cases hb2
    · have f1 : s.src.toNat = a.src.toNat := by omega
      have f2 : at_ = a.dst.toNat := by omega
      rw [f1, f2]
      by_cases c1 : v = a.dst.toNat <;> by_cases c2 : v = a.src.toNat <;> simp only [c1, c2, if_true, if_false] <;> split <;> omega
  · rw [List.getElem?_set] at hui
    by_cases e : s.arc.toNat = i
    · subst e
      simp only [hil, if_true] at hui
      have hu : u = z := (Option.some.inj hui).symm
      have hba : b = a := Option.some.inj (hbi.symm.trans ha0)
      subst hu; subst hba
      rcases hz with ⟨hb2, rfl⟩ | ⟨hb2, rfl⟩
      · have := hr0.1 hb2; omega
      · have := hr0.2 hb2; omega
    · simp only [e, if_false] at hui
      exact h.bds.2 i b u hbi hui
  · obtain ⟨i, b, u, q, hbi, hui, hq, ht1⟩ := mem_stps ht
    rw [Nat.zero_add] at ht1
    rw [List.getElem?_set] at hui
    by_cases e : s.arc.toNat = i
    · subst e
      have hba : b = a := Option.some.inj (hbi.symm.trans ha0)
      subst hba
      obtain ⟨j, b2, u2, q2, k1, k2, k3, k4⟩ := mem_stps htight
      rw [Nat.zero_add] at k4
      have hj : j = s.arc.toNat ∧ cst p' b2 q2 = 0 := by
        rcases mem_stp1.1 k4 with ⟨_, e4⟩ | ⟨_, e4⟩
        · simp only [fwd, Stp.mk.injEq] at e4
          exact ⟨by omega, e4.2.2.2.2.symm⟩
        · simp only [bwd, Stp.mk.injEq] at e4
          exact ⟨by omega, by omega⟩
      obtain ⟨rfl, hz0⟩ := hj
      have e5 : b2 = b := Option.some.inj (k1.symm.trans hbi)
      have e6 : q2 = q := Option.some.inj (k3.symm.trans hq)
      subst e5; subst e6
      rcases mem_stp1.1 ht1 with ⟨_, rfl⟩ | ⟨_, rfl⟩ <;> simp only [fwd, bwd] <;> omega
    · simp only [e, if_false] at hui
      exact h.red t (mem_stps_of hbi hui hq ht1)

/-- How much too much there is. -/
def tot (mo : Nat → Int) : Nat := ((List.range 1000).map fun v => (mo v).toNat).sum
theorem sum_lt {f g : Nat → Nat} (hle : ∀ v, f v ≤ g v) {u : Nat} : ∀ {l : List Nat}, u ∈ l → f u < g u → (l.map f).sum < (l.map g).sum := by
  intro l
  induction l with
  | nil => intro h; cases h
  | cons w l ih =>
    intro hu hlt
    have hsum : ∀ l : List Nat, (l.map f).sum ≤ (l.map g).sum := by
      intro l
      induction l with
      | nil => simp
      | cons a l ih => have := hle a; simp only [List.map_cons, List.sum_cons]; omega
    have h1 := hle w
    have h2 := hsum l
    simp only [List.map_cons, List.sum_cons]
    rcases List.mem_cons.1 hu with rfl | hu
    · omega
    · have := ih hu hlt; omega

/-- Behind the leading. -/
theorem Cn.led (h : Cn N arcs wl x mo p) (hV : Valid N arcs) (hw : Wts arcs wl) (hn : Nearest N.toNat (stps p 0 arcs x wl) mo cost last rk) {from_ : Nat} (hto : to < N.toNat) (htd : mo to < 0) (htf : nth cost to < far)
    (hmin : ∀ u, u < N.toNat → mo u < 0 → nth cost to ≤ nth cost u) (hfr : from_ < N.toNat) (hfs : 0 < mo from_) (hm : 0 < much ∧ much ≤ -mo to ∧ much ≤ mo from_)
    (hA : Aug arcs wl x much (nextp N.toNat cost (nth cost to) p) last to from_ x') :
    Cn N arcs wl x' (upf (upf mo from_ (mo from_ - much)) to (upf mo from_ (mo from_ - much) to + much)) (nextp N.toNat cost (nth cost to) p) ∧
      tot (upf (upf mo from_ (mo from_ - much)) to (upf mo from_ (mo from_ - much) to + much)) < tot mo := by
  have hne : to ≠ from_ := fun e => by rw [e] at htd; omega
  have hmo : ∀ v, upf (upf mo from_ (mo from_ - much)) to (upf mo from_ (mo from_ - much) to + much) v = mo v + (if v = to then much else 0) - (if v = from_ then much else 0) := by
    intro v
    simp only [upf, hne, if_false]
    by_cases c1 : v = to
    · subst c1; simp [hne]
    · by_cases c2 : v = from_
      · subst c2; simp [c1]
      · simp [c1, c2]
  have hN := hV.max
  have hk0 := hn.nonneg to hto
  obtain ⟨D, hD1, hD2⟩ := h.pd
  have hDto := hD2 to hto htd
  have hway := way_bd h hV hw hn (rk to) to (Nat.le_refl _) hto htf
  have hrk := hn.rkl to hto htf
  have hnp : ∀ v, nextp N.toNat cost (nth cost to) p v ≤ D + nth cost to ∧ 0 ≤ nextp N.toNat cost (nth cost to) p v := by
    intro v
    have h1 := hD1 v
    have h2 := h.pb v
    simp only [nextp]
    split
    · rename_i hv
      have := hn.nonneg v hv
      omega
    · omega
  refine ⟨⟨hA.bds, ?_, hA.red, fun v => ?_, fun v hv hp => ?_, ⟨D + nth cost to, fun v => (hnp v).1, fun v hv hp => ?_⟩⟩, ?_⟩
  · funext v
    rw [hmo, hA.exq v, h.meq]
  · have := hnp v; omega
  · rw [hmo] at hp
    have hmv : 0 < mo v := by
      by_cases c : v = to
      · subst c; simp [hne] at hp; omega
      · simp only [c, if_false] at hp
        split at hp <;> omega
    have h1 := h.pz v hv hmv
    have h2 := hn.src v hv hmv
    simp only [nextp, hv, if_true, h1, h2]
    omega
  · rw [hmo] at hp
    have hmv : mo v < 0 := by
      by_cases c : v = from_
      · subst c
        have : ¬ v = to := fun e => hne e.symm
        simp only [this, if_false, if_true] at hp; omega
      · simp only [c, if_false] at hp
        split at hp <;> omega
    have h1 := hD2 v hv hmv
    have h2 := hmin v hv hmv
    simp only [nextp, hv, if_true, h1]
    omega
  · refine sum_lt (u := from_) (fun v => ?_) (List.mem_range.2 (by omega)) ?_
    · rw [hmo]
      by_cases c1 : v = to
      · subst c1; simp [hne]; omega
      · simp only [c1, if_false]
        split <;> omega
    · rw [hmo]
      have : ¬ from_ = to := fun e => hne e.symm
      simp only [this, if_false, if_true]
      omega
end

theorem much_step {arcs : List Arc} {x : List Int} {last : List Stp} {to at_ : Nat} {much m' : Int} {s : Stp} (h : ∀ v t, Trail last to v → last[v]? = some t → Trail last at_ v ∨ (0 ≤ t.arc ∧ ResOk arcs x much t))
    (hs : last[at_]? = some s) (ha : 0 ≤ s.arc) (hres : ResOk arcs x m' s) (hle : m' ≤ much) : ∀ v t, Trail last to v → last[v]? = some t → Trail last s.src.toNat v ∨ (0 ≤ t.arc ∧ ResOk arcs x m' t) := by
  intro v t hv ht
  rcases h v t hv ht with h1 | ⟨h1, h2⟩
  · rcases h1.split hs with rfl | h1
    · rw [hs] at ht; cases ht; exact .inr ⟨ha, hres⟩
    · exact .inl h1
  · exact .inr ⟨h1, h2.le hle⟩

theorem ex_bd_all {N : Int} {arcs : List Arc} {x : List Int} (hV : Valid N arcs) (hx : Amts arcs x) (v : Nat) : -4000000000 ≤ ex arcs x v ∧ ex arcs x v ≤ 4000000000 := by
  have h := ex_bd_take hV hx arcs.length v
  rw [List.take_length, List.take_of_length_le (by rw [hx.len]; exact Nat.le_refl _)] at h
  exact h

/-! ### the start -/

/-- The amounts at first: each is the better end of its arc. -/
def x0 : List Arc → List Int → List Int
  | a :: as, q :: qs => (if 0 < q then a.hi else a.lo) :: x0 as qs
  | _, _ => []
theorem x0_length : ∀ (as : List Arc) (qs : List Int), as.length = qs.length → (x0 as qs).length = as.length := by
  intro as
  induction as with
  | nil => intro qs _; simp [x0]
  | cons a as ih =>
    intro qs h
    cases qs with
    | nil => simp at h
    | cons q qs => simp [x0, ih qs (by simpa using h)]
theorem x0_get : ∀ (as : List Arc) (qs : List Int) (i : Nat) (a : Arc) (q : Int), as[i]? = some a → qs[i]? = some q → (x0 as qs)[i]? = some (if 0 < q then a.hi else a.lo) := by
  intro as
  induction as with
  | nil => intro qs i a q h; simp at h
  | cons b as ih =>
    intro qs i a q h1 h2
    cases qs with
    | nil => simp at h2
    | cons r qs =>
      cases i with
      | zero => simp at h1 h2; subst h1; subst h2; rfl
      | succ i => simpa [x0] using ih qs i a q (by simpa using h1) (by simpa using h2)

/-- The start is a state without steps of cost below 0, if no arc's bounds cross. -/
theorem Cn.start {N : Int} {arcs : List Arc} {wl : List Int} (hw : Wts arcs wl) (hle : ∀ a, a ∈ arcs → a.lo ≤ a.hi) : Cn N arcs wl (x0 arcs wl) (ex arcs (x0 arcs wl)) fun _ => 0 := by
  have hl := x0_length arcs wl hw.len.symm
  refine ⟨⟨hl, fun i a y ha hy => ?_⟩, rfl, fun s hs => ?_, fun v => by omega, fun v _ _ => rfl, ⟨0, fun v => Int.le_refl _, fun v _ _ => rfl⟩⟩
  · obtain ⟨q, hq⟩ : ∃ q, wl[i]? = some q := ⟨_, List.getElem?_eq_getElem (by rw [hw.len]; exact (List.getElem?_eq_some_iff.1 ha).1)⟩
    rw [x0_get arcs wl i a q ha hq] at hy
    have hy' : y = if 0 < q then a.hi else a.lo := (Option.some.inj hy).symm
    have := hle a (List.mem_of_getElem? ha)
    subst hy'
    split <;> omega
  · obtain ⟨i, a, y, q, ha, hy, hq, hs1⟩ := mem_stps hs
    rw [x0_get arcs wl i a q ha hq] at hy
    have hy' : y = if 0 < q then a.hi else a.lo := (Option.some.inj hy).symm
    subst hy'
    rcases mem_stp1.1 hs1 with ⟨h1, rfl⟩ | ⟨h1, rfl⟩
    · simp only [fwd, cst]; split at h1 <;> omega
    · simp only [bwd, cst]; split at h1 <;> omega

theorem splice_car {N : Int} {va vx vw u1 u2 : Value} {m p : Nat → Int} : splice (carC N va vx vw m p) 0 [.int .i64 5, u1] = carC 5 u1 vx vw m p ∧ splice (carC N va vx vw m p) 2 [u2] = carC N va u2 vw m p := ⟨rfl, rfl⟩

theorem x0_amts {N : Int} {arcs : List Arc} {wl : List Int} (hV : Valid N arcs) (hw : Wts arcs wl) : Amts arcs (x0 arcs wl) := by
  have hl := x0_length arcs wl hw.len.symm
  refine ⟨hl, fun y hy => ?_⟩
  obtain ⟨i, hi, rfl⟩ := List.mem_iff_getElem.1 hy
  obtain ⟨a, ha⟩ : ∃ a, arcs[i]? = some a := ⟨_, List.getElem?_eq_getElem (by omega)⟩
  obtain ⟨q, hq⟩ : ∃ q, wl[i]? = some q := ⟨_, List.getElem?_eq_getElem (by rw [hw.len]; omega)⟩
  have h1 := x0_get arcs wl i a q ha hq
  rw [List.getElem?_eq_getElem hi] at h1
  have h2 := hV.at ha
  rw [Option.some.inj h1]
  split <;> omega

/-- A sum over the first n nodes. -/
def sm (f : Nat → Int) : Nat → Int
  | 0 => 0
  | n + 1 => sm f n + f n
theorem sm_add (f g : Nat → Int) (n : Nat) : sm (fun v => f v + g v) n = sm f n + sm g n := by
  induction n with
  | zero => rfl
  | succ n ih => simp only [sm, ih]; omega
theorem sm_sub (f g : Nat → Int) (n : Nat) : sm (fun v => f v - g v) n = sm f n - sm g n := by
  induction n with
  | zero => rfl
  | succ n ih => simp only [sm, ih]; omega
theorem sm_congr {f g : Nat → Int} {n : Nat} (h : ∀ v, v < n → f v = g v) : sm f n = sm g n := by
  induction n with
  | zero => rfl
  | succ n ih => simp only [sm, ih fun v hv => h v (by omega), h n (by omega)]
theorem sm_zero (n : Nat) : sm (fun _ => 0) n = 0 := by
  induction n with
  | zero => rfl
  | succ n ih => simp [sm, ih]
theorem sm_one (d y : Int) (P : Nat → Bool) (n : Nat) : sm (fun v => if P v = true then (if d = (v : Int) then y else 0) else 0) n = if 0 ≤ d ∧ d < n ∧ P d.toNat = true then y else 0 := by
  induction n with
  | zero => simp only [sm]; rw [if_neg (by omega)]
  | succ n ih =>
    simp only [sm, ih]
    by_cases e : d = (n : Int)
    · have e1 : d.toNat = n := by omega
      have h1 : ¬ (0 ≤ d ∧ d < n ∧ P d.toNat = true) := by omega
      rw [if_neg h1]
      by_cases hp : P n = true
      · have h2 : 0 ≤ d ∧ d < (n + 1 : Nat) ∧ P d.toNat = true := ⟨by omega, by omega, by rw [e1]; exact hp⟩
        rw [if_pos h2, if_pos hp, if_pos e]; omega
      · have h2 : ¬ (0 ≤ d ∧ d < (n + 1 : Nat) ∧ P d.toNat = true) := fun h => hp (by rw [← e1]; exact h.2.2)
        rw [if_neg h2, if_neg hp]; omega
    · have h0 : (if P n = true then (if d = (n : Int) then y else 0) else 0) = 0 := by rw [if_neg e]; split <;> rfl
      rw [h0, Int.add_zero]
      by_cases h1 : 0 ≤ d ∧ d < n ∧ P d.toNat = true
      · rw [if_pos h1, if_pos ⟨h1.1, by omega, h1.2.2⟩]
      · rw [if_neg h1, if_neg fun h => h1 ⟨h.1, by omega, h.2.2⟩]
theorem sm_pos {f : Nat → Int} {n u : Nat} (h : ∀ v, v < n → 0 ≤ f v) (hu : u < n) (hf : 0 < f u) : 0 < sm f n := by
  have hnn : ∀ m, m ≤ n → 0 ≤ sm f m := by
    intro m
    induction m with
    | zero => intro _; exact Int.le_refl _
    | succ m ih => intro hm; have := ih (by omega); have := h m (by omega); simp only [sm]; omega
  induction n with
  | zero => omega
  | succ n ih =>
    simp only [sm]
    have h1 := hnn n (by omega)
    have h2 := h n (by omega)
    rcases Nat.lt_or_ge u n with hu' | hu'
    · have := ih (fun v hv => h v (by omega)) hu' (fun m hm => hnn m (by omega)); omega
    · have : u = n := by omega
      subst this; omega

/-- What nodes have too much, together: by what goes over the cut. -/
def flux (P : Nat → Bool) : List Arc → List Int → Int
  | a :: as, y :: ys => (if P a.dst.toNat = true then y else 0) - (if P a.src.toNat = true then y else 0) + flux P as ys
  | _, _ => 0
theorem sm_ex {N : Int} (P : Nat → Bool) : ∀ (as : List Arc) (ys : List Int), (∀ a ∈ as, okArc N a = true) → sm (fun v => if P v = true then ex as ys v else 0) N.toNat = flux P as ys := by
  intro as
  induction as with
  | nil =>
    intro ys _
    simp only [ex, flux]
    rw [sm_congr (g := fun _ => 0) (fun v _ => by split <;> rfl), sm_zero]
  | cons a as ih =>
    intro ys h
    cases ys with
    | nil =>
      simp only [ex, flux]
      rw [sm_congr (g := fun _ => 0) (fun v _ => by split <;> rfl), sm_zero]
    | cons y ys =>
      have hok := okArc_iff.1 (h a (List.mem_cons_self ..))
      have h1 := ih ys fun b hb => h b (List.mem_cons_of_mem _ hb)
      have h2 := sm_one a.dst y P N.toNat
      have h3 := sm_one a.src y P N.toNat
      have e2 : (if 0 ≤ a.dst ∧ a.dst < N.toNat ∧ P a.dst.toNat = true then y else 0) = if P a.dst.toNat = true then y else 0 := by
        by_cases c : P a.dst.toNat = true
        · rw [if_pos c, if_pos ⟨by omega, by omega, c⟩]
        · rw [if_neg c, if_neg fun h => c h.2.2]
      have e3 : (if 0 ≤ a.src ∧ a.src < N.toNat ∧ P a.src.toNat = true then y else 0) = if P a.src.toNat = true then y else 0 := by
        by_cases c : P a.src.toNat = true
        · rw [if_pos c, if_pos ⟨by omega, by omega, c⟩]
        · rw [if_neg c, if_neg fun h => c h.2.2]
      rw [e2] at h2
      rw [e3] at h3
      simp only [flux, ← h1, ← h2, ← h3]
      rw [← sm_sub, ← sm_add]
      apply sm_congr
      intro v _
      simp only [ex]
      split <;> omega

/-- The nodes below i that no way leads to. -/
def und (cost : List Int) (i : Nat) : List Int := ((List.range i).filter fun v => decide (¬ nth cost v < far)).map fun (v : Nat) => (v : Int)
theorem mem_und {cost : List Int} {i : Nat} {x : Int} : x ∈ und cost i ↔ ∃ v : Nat, v < i ∧ ¬ nth cost v < far ∧ x = (v : Int) := by
  simp only [und, List.mem_map, List.mem_filter, List.mem_range, decide_eq_true_eq]
  constructor
  · rintro ⟨v, ⟨h1, h2⟩, rfl⟩; exact ⟨v, h1, h2, rfl⟩
  · rintro ⟨v, h1, h2, rfl⟩; exact ⟨v, ⟨h1, h2⟩, rfl⟩
theorem und_zero {cost : List Int} : und cost 0 = [] := rfl
theorem und_in {cost : List Int} {i : Nat} (h : ¬ nth cost i < far) : und cost (i + 1) = und cost i ++ [(i : Int)] := by
  have h1 : [i].filter (fun v => decide (¬ nth cost v < far)) = [i] := List.filter_cons_of_pos (decide_eq_true h)
  rw [und, List.range_succ, List.filter_append, h1, List.map_append]
  rfl
theorem und_out {cost : List Int} {i : Nat} (h : nth cost i < far) : und cost (i + 1) = und cost i := by
  have h1 : [i].filter (fun v => decide (¬ nth cost v < far)) = [] := List.filter_cons_of_neg (by rw [decide_eq_true_eq]; exact fun q => q h)
  rw [und, List.range_succ, List.filter_append, h1, List.append_nil]
  rfl
theorem und_len (cost : List Int) (i : Nat) : (und cost i).length ≤ i := by
  have := List.length_filter_le (fun v => decide (¬ nth cost v < far)) (List.range i)
  simp only [und, List.length_map]
  rw [List.length_range] at this
  exact this
theorem asc_of {N : Int} : ∀ (l : List Int) (last : Int), l.Pairwise (· < ·) → (∀ v ∈ l, last + 1 ≤ v ∧ v ≤ N - 1) → asc N last l = true := by
  intro l
  induction l with
  | nil => intro _ _ _; rfl
  | cons a l ih =>
    intro last hp hb
    rw [List.pairwise_cons] at hp
    simp only [asc, Bool.and_eq_true, decide_eq_true_eq]
    refine ⟨hb a (List.mem_cons_self ..), ih a hp.2 fun v hv => ?_⟩
    have := hp.1 v hv
    have := hb v (List.mem_cons_of_mem _ hv)
    omega
theorem und_asc {cost : List Int} {N : Int} : asc N (-1) (und cost N.toNat) = true := by
  refine asc_of _ _ ?_ fun v hv => ?_
  · unfold und
    rw [List.pairwise_map]
    exact (List.pairwise_lt_range.filter _).imp fun h => by omega
  · obtain ⟨u, hu, _, rfl⟩ := mem_und.1 hv
    omega

theorem foldl_add (l : List Int) : ∀ a, l.foldl (· + ·) a = a + l.foldl (· + ·) 0 := by
  induction l with
  | nil => intro a; simp
  | cons b l ih => intro a; rw [List.foldl_cons, List.foldl_cons, ih, ih (0 + b)]; omega
theorem csum_append (s t : List (Arc × Bool)) : csum (s ++ t) = csum s + csum t := by
  simp only [csum, List.map_append, List.foldl_append]
  rw [foldl_add]

/-- What goes over a cut that no step crosses. -/
theorem flux_cut (U : List Int) (P : Nat → Bool) : ∀ (as : List Arc) (ys : List Int), as.length = ys.length → (∀ a ∈ as, (a.src ∈ U ↔ P a.src.toNat = true) ∧ (a.dst ∈ U ↔ P a.dst.toNat = true)) →
    (∀ (i : Nat) (a : Arc) (y : Int), as[i]? = some a → ys[i]? = some y → (P a.src.toNat = true → ¬ P a.dst.toNat = true → y = a.lo) ∧ (P a.dst.toNat = true → ¬ P a.src.toNat = true → y = a.hi)) →
    csum (cutl U as) = - flux P as ys := by
  intro as
  induction as with
  | nil => intro ys _ _ _; simp [cutl, csum, flux]
  | cons a as ih =>
    intro ys hl hU h
    cases ys with
    | nil => simp at hl
    | cons y ys =>
      have h1 := ih ys (by simpa using hl) (fun b hb => hU b (List.mem_cons_of_mem _ hb)) fun i b z hb hz => h (i + 1) b z (by simpa using hb) (by simpa using hz)
      have h2 := h 0 a y rfl rfl
      obtain ⟨u1, u2⟩ := hU a (List.mem_cons_self ..)
      have hc : cutl U (a :: as) = cut1 U a ++ cutl U as := by simp [cutl]
      rw [hc, csum_append, h1]
      simp only [flux]
      unfold cut1
      by_cases c1 : P a.src.toNat = true <;> by_cases c2 : P a.dst.toNat = true
      · have e1 := u1.2 c1; have e2 := u2.2 c2
        simp [e1, e2, c1, c2, csum]
      · have e1 := u1.2 c1; have e2 : ¬ a.dst ∈ U := fun q => c2 (u2.1 q)
        have := h2.1 c1 c2
        simp [e1, e2, c1, c2, csum, csum1]; omega
      · have e1 : ¬ a.src ∈ U := fun q => c1 (u1.1 q); have e2 := u2.2 c2
        have := h2.2 c2 c1
        simp [e1, e2, c1, c2, csum, csum1]; omega
      · have e1 : ¬ a.src ∈ U := fun q => c1 (u1.1 q); have e2 : ¬ a.dst ∈ U := fun q => c2 (u2.1 q)
        simp [e1, e2, c1, c2, csum]

theorem flux_compl {P Q : Nat → Bool} (h : ∀ v, P v = !Q v) : ∀ (as : List Arc) (ys : List Int), flux P as ys + flux Q as ys = 0 := by
  intro as
  induction as with
  | nil => intro ys; simp [flux]
  | cons a as ih =>
    intro ys
    cases ys with
    | nil => simp [flux]
    | cons y ys =>
      have := ih ys
      simp only [flux, h]
      cases Q a.src.toNat <;> cases Q a.dst.toNat <;> simp <;> omega

/-- The nodes that no way leads to are an obstacle. -/
theorem obst {N : Int} {arcs : List Arc} {wl x : List Int} {mo p : Nat → Int} {cost : List Int} {last : List Stp} {rk : Nat → Nat} (h : Cn N arcs wl x mo p) (hV : Valid N arcs) (hw : Wts arcs wl)
    (hn : Nearest N.toNat (stps p 0 arcs x wl) mo cost last rk) (hno : ∀ v, v < N.toNat → mo v < 0 → ¬ nth cost v < far) (hex : ∃ u : Nat, u < 1000 ∧ 0 < mo u) : hind N arcs (-1) (und cost N.toNat) = true := by
  rw [hind, if_neg (by omega), und_asc, Bool.true_and, decide_eq_true_eq]
  have hfar : far = 1152921504606846976 := rfl
  have hcost := h.cost hw
  have hmem : ∀ d : Int, 0 ≤ d → d < N → (d ∈ und cost N.toNat ↔ decide (¬ nth cost d.toNat < far) = true) := by
    intro d h1 h2
    rw [mem_und, decide_eq_true_eq]
    constructor
    · rintro ⟨v, _, h3, rfl⟩; simpa using h3
    · intro h3; exact ⟨d.toNat, by omega, h3, by omega⟩
  have key := flux_cut (und cost N.toNat) (fun v => decide (¬ nth cost v < far)) arcs x (by rw [h.bds.1]) (fun a ha => by
    have hok := okArc_iff.1 (hV.ok a ha)
    exact ⟨hmem _ (by omega) (by omega), hmem _ (by omega) (by omega)⟩) (fun i a y ha hy => by
    have hok := hV.at ha
    have hb := h.bds.2 i a y ha hy
    obtain ⟨q, hq⟩ : ∃ q, wl[i]? = some q := ⟨_, List.getElem?_eq_getElem (by rw [hw.len]; exact (List.getElem?_eq_some_iff.1 ha).1)⟩
    simp only [decide_eq_true_eq]
    refine ⟨fun c1 c2 => ?_, fun c1 c2 => ?_⟩
    · apply Classical.byContradiction
      intro hne
      have hs : bwd p i a q ∈ stps p 0 arcs x wl := mem_stps_of ha hy hq (mem_stp1.2 (.inr ⟨by omega, rfl⟩))
      have h1 := hn.relaxed _ hs
      have h2 := hcost _ hs
      simp only [bwd] at h1 h2
      have c2' : nth cost a.dst.toNat < far := Classical.byContradiction c2
      have h3 := h1 c2'
      have h4 := hn.bd _ (by omega) c2'
      omega
    · apply Classical.byContradiction
      intro hne
      have hs : fwd p i a q ∈ stps p 0 arcs x wl := mem_stps_of ha hy hq (mem_stp1.2 (.inl ⟨by omega, rfl⟩))
      have h1 := hn.relaxed _ hs
      have h2 := hcost _ hs
      simp only [fwd] at h1 h2
      have c2' : nth cost a.src.toNat < far := Classical.byContradiction c2
      have h3 := h1 c2'
      have h4 := hn.bd _ (by omega) c2'
      omega)
  rw [key]
  have e1 := sm_ex (N := N) (fun v => decide (¬ nth cost v < far)) arcs x hV.ok
  have e2 := sm_ex (N := N) (fun v => decide (nth cost v < far)) arcs x hV.ok
  have e3 := flux_compl (P := fun v => decide (¬ nth cost v < far)) (Q := fun v => decide (nth cost v < far)) (fun v => by rw [decide_not]) arcs x
  obtain ⟨u, hu, hup⟩ := hex
  have huN : u < N.toNat := by
    rcases Nat.lt_or_ge u N.toNat with h1 | h1
    · exact h1
    · rw [h.meq, ex_out arcs x u hV.ok (by omega)] at hup
      omega
  have hpos : 0 < sm (fun v => if decide (nth cost v < far) = true then ex arcs x v else 0) N.toNat := by
    refine sm_pos (u := u) (fun v hv => ?_) huN ?_
    · have h1 := hno v hv
      rw [h.meq] at h1
      by_cases c : nth cost v < far
      · simp only [c, decide_true, if_true]
        rcases Int.lt_or_le (ex arcs x v) 0 with h2 | h2
        · exact absurd c (h1 h2)
        · exact h2
      · simp [c]
    · have h1 := hn.src u huN hup
      have h2 : nth cost u < far := by omega
      rw [h.meq] at hup
      simp only [h2, decide_true, if_true]; exact hup
  omega

theorem le_step {arcs : List Arc} {i : Nat} {a : Arc} (h : ∀ (j : Nat) (a : Arc), j < i → arcs[j]? = some a → a.lo ≤ a.hi) (ha : arcs[i]? = some a) (hl : a.lo ≤ a.hi) :
    ∀ (j : Nat) (b : Arc), j < i + 1 → arcs[j]? = some b → b.lo ≤ b.hi := by
  intro j b hj hb
  rcases Nat.lt_or_ge j i with h1 | h1
  · exact h j b h1 hb
  · have e : j = i := by omega
    subst e
    rw [ha] at hb
    cases hb
    exact hl
end Go.Vk.Flow

/- Nets, as plain mathematics, part 4: circulations, what hinders them, and potentials that show a greatest sum. No program in sight. -/
namespace Go.Vk.Flow
open Go

/-! ### circulations -/

/-- Amounts that are a circulation. -/
structure Circ (arcs : List Arc) (x : List Int) : Prop where
  bds : Bds arcs x
  zero : ∀ v : Nat, ex arcs x v = 0

theorem kept_iff {N : Int} {arcs : List Arc} {x : List Int} (hV : Valid N arcs) (hl : x.length = arcs.length) : kept 1000 arcs x = true ↔ Circ arcs x := by
  simp only [kept, Bool.and_eq_true, List.all_eq_true, List.mem_range, beq_iff_eq]
  constructor
  · rintro ⟨h1, h2⟩
    refine ⟨⟨hl, (within_iff arcs x hl.symm).1 h1⟩, fun v => ?_⟩
    rcases Nat.lt_or_ge v 1000 with h | h
    · exact h2 v h
    · exact ex_out arcs x v hV.ok (by have := hV.max; omega)
  · intro h
    exact ⟨(within_iff arcs x hl.symm).2 h.bds.2, fun v _ => h.zero v⟩

theorem Circ.amts {N : Int} {arcs : List Arc} {x : List Int} (h : Circ arcs x) (hV : Valid N arcs) : Amts arcs x := by
  refine ⟨h.bds.1, fun y hy => ?_⟩
  obtain ⟨i, hi, rfl⟩ := List.mem_iff_getElem.1 hy
  obtain ⟨a, ha⟩ : ∃ a, arcs[i]? = some a := ⟨_, List.getElem?_eq_getElem (by rw [← h.bds.1]; exact hi)⟩
  have h1 := h.bds.2 i a _ ha (List.getElem?_eq_getElem hi)
  have h2 := hV.at ha
  omega

theorem flux_circ {N : Int} {arcs : List Arc} {x : List Int} (hV : Valid N arcs) (h : Circ arcs x) (P : Nat → Bool) : flux P arcs x = 0 := by
  rw [← sm_ex (N := N) P arcs x hV.ok, sm_congr (g := fun _ => 0) (fun v _ => by rw [h.zero]; split <;> rfl), sm_zero]

theorem flux_all : ∀ (as : List Arc) (ys : List Int), flux (fun _ => true) as ys = 0 := by
  intro as
  induction as with
  | nil => intro ys; simp [flux]
  | cons a as ih =>
    intro ys
    cases ys with
    | nil => simp [flux]
    | cons y ys => simp only [flux, ih, if_true]; omega

/-- If no node has too much, none has too little. -/
theorem Cn.circ {N : Int} {arcs : List Arc} {wl x : List Int} {mo p : Nat → Int} (h : Cn N arcs wl x mo p) (hV : Valid N arcs) (hm : ∀ u : Nat, u < 1000 → mo u ≤ 0) : Circ arcs x := by
  refine ⟨h.bds, fun v => ?_⟩
  have hle : ∀ u, ex arcs x u ≤ 0 := fun u => by
    rcases Nat.lt_or_ge u 1000 with h1 | h1
    · have := hm u h1; rw [h.meq] at this; exact this
    · rw [ex_out arcs x u hV.ok (by have := hV.max; omega)]; omega
  rcases Nat.lt_or_ge v N.toNat with hv | hv
  · apply Classical.byContradiction
    intro hne
    have h1 : sm (fun u => ex arcs x u) N.toNat = 0 := by
      rw [← flux_all arcs x, ← sm_ex (N := N) _ arcs x hV.ok]
      exact sm_congr fun u _ => by simp
    have h2 := sm_pos (f := fun u => 0 - ex arcs x u) (n := N.toNat) (u := v) (fun u _ => by have := hle u; omega) hv (by have := hle v; omega)
    rw [sm_sub, sm_zero, h1] at h2
    exact absurd h2 (by decide)
  · exact ex_out arcs x v hV.ok (by omega)

theorem cut_le (U : List Int) (P : Nat → Bool) : ∀ (as : List Arc) (ys : List Int), as.length = ys.length → (∀ a ∈ as, (a.src ∈ U ↔ P a.src.toNat = true) ∧ (a.dst ∈ U ↔ P a.dst.toNat = true)) →
    (∀ (i : Nat) (a : Arc) (y : Int), as[i]? = some a → ys[i]? = some y → a.lo ≤ y ∧ y ≤ a.hi) → csum (cutl U as) ≤ - flux P as ys := by
  intro as
  induction as with
  | nil => intro ys _ _ _; simp [cutl, csum, flux]
  | cons a as ih =>
    intro ys hl hU h
    cases ys with
    | nil => simp at hl
    | cons y ys =>
      have h1 := ih ys (by simpa using hl) (fun b hb => hU b (List.mem_cons_of_mem _ hb)) fun i b z hb hz => h (i + 1) b z (by simpa using hb) (by simpa using hz)
      have h2 := h 0 a y rfl rfl
      obtain ⟨u1, u2⟩ := hU a (List.mem_cons_self ..)
      have hc : cutl U (a :: as) = cut1 U a ++ cutl U as := by simp [cutl]
      rw [hc, csum_append]
      simp only [flux]
      unfold cut1
      by_cases c1 : P a.src.toNat = true <;> by_cases c2 : P a.dst.toNat = true
      · have e1 := u1.2 c1; have e2 := u2.2 c2
        simp [e1, e2, c1, c2, csum] at h1 ⊢; omega
      · have e1 := u1.2 c1; have e2 : ¬ a.dst ∈ U := fun q => c2 (u2.1 q)
        simp [e1, e2, c1, c2, csum, csum1] at h1 ⊢; omega
      · have e1 : ¬ a.src ∈ U := fun q => c1 (u1.1 q); have e2 := u2.2 c2
        simp [e1, e2, c1, c2, csum, csum1] at h1 ⊢; omega
      · have e1 : ¬ a.src ∈ U := fun q => c1 (u1.1 q); have e2 : ¬ a.dst ∈ U := fun q => c2 (u2.1 q)
        simp [e1, e2, c1, c2, csum] at h1 ⊢; omega

/-- Where there is an obstacle nothing is a circulation. -/
theorem hind_no {N : Int} {arcs : List Arc} {x : List Int} {A : Int} {ns : List Int} (hV : Valid N arcs) (h : hind N arcs A ns = true) (hc : Circ arcs x) : False := by
  by_cases hA : 0 ≤ A
  · obtain ⟨a, ha, hlt⟩ := hind_bad h hA
    obtain ⟨y, hy⟩ : ∃ y, x[A.toNat]? = some y := ⟨_, List.getElem?_eq_getElem (by rw [hc.bds.1]; exact (List.getElem?_eq_some_iff.1 ha).1)⟩
    have := hc.bds.2 _ a y ha hy
    omega
  · obtain ⟨_, hasc, hpos⟩ := hind_cut h hA
    have h1 := cut_le ns (fun v => decide ((v : Int) ∈ ns)) arcs x hc.bds.1.symm (fun a ha => by
      have hok := okArc_iff.1 (hV.ok a ha)
      have e1 : ((a.src.toNat : Nat) : Int) = a.src := by omega
      have e2 : ((a.dst.toNat : Nat) : Int) = a.dst := by omega
      simp [e1, e2]) hc.bds.2
    rw [flux_circ hV hc] at h1
    omega

/-! ### sums and bounds -/

/-- The sum of what the arcs weigh with potentials. -/
def rdot (p : List Int) : List Arc → List Int → List Int → Int
  | a :: as, y :: ys, q :: qs => rst p a q * y + rdot p as ys qs
  | _, _, _ => 0
/-- What potentials add to a sum. -/
def lift (f : Nat → Int) : List Arc → List Int → Int
  | a :: as, y :: ys => (f a.dst.toNat * y - f a.src.toNat * y) + lift f as ys
  | _, _ => 0
theorem rdot_eq {p : List Int} : ∀ (as : List Arc) (ys qs : List Int), as.length = ys.length → as.length = qs.length → rdot p as ys qs = dot qs ys - lift (nth p) as ys := by
  intro as
  induction as with
  | nil => intro ys qs h1 h2; cases ys with
    | nil => cases qs with
      | nil => rfl
      | cons => simp at h2
    | cons => simp at h1
  | cons a as ih =>
    intro ys qs h1 h2
    cases ys with
    | nil => simp at h1
    | cons y ys =>
      cases qs with
      | nil => simp at h2
      | cons q qs =>
        simp only [rdot, dot, lift, rst, ih ys qs (by simpa using h1) (by simpa using h2), Int.add_mul, Int.sub_mul]
        omega
theorem sm_mul_one (f : Nat → Int) (d y : Int) (n : Nat) : sm (fun v => f v * (if d = (v : Int) then y else 0)) n = if 0 ≤ d ∧ d < n then f d.toNat * y else 0 := by
  induction n with
  | zero => simp only [sm]; rw [if_neg (by omega)]
  | succ n ih =>
    simp only [sm, ih]
    by_cases e : d = (n : Int)
    · have e1 : d.toNat = n := by omega
      rw [if_neg (by omega), if_pos e, if_pos (by omega), e1, Int.zero_add]
    · rw [if_neg e, Int.mul_zero, Int.add_zero]
      by_cases h1 : 0 ≤ d ∧ d < n
      · rw [if_pos h1, if_pos (by omega)]
      · rw [if_neg h1, if_neg (by omega)]
theorem sm_lift {N : Int} (f : Nat → Int) : ∀ (as : List Arc) (ys : List Int), (∀ a ∈ as, okArc N a = true) → sm (fun v => f v * ex as ys v) N.toNat = lift f as ys := by
  intro as
  induction as with
  | nil =>
    intro ys _
    simp only [ex, lift, Int.mul_zero, sm_zero]
  | cons a as ih =>
    intro ys h
    cases ys with
    | nil => simp only [ex, lift, Int.mul_zero, sm_zero]
    | cons y ys =>
      have hok := okArc_iff.1 (h a (List.mem_cons_self ..))
      have h1 := ih ys fun b hb => h b (List.mem_cons_of_mem _ hb)
      have h2 := sm_mul_one f a.dst y N.toNat
      have h3 := sm_mul_one f a.src y N.toNat
      rw [if_pos (by omega)] at h2 h3
      simp only [lift, ← h1, ← h2, ← h3]
      rw [← sm_sub, ← sm_add]
      apply sm_congr
      intro v _
      simp only [ex, Int.mul_add, Int.mul_sub]
theorem lift_circ {N : Int} {arcs : List Arc} {x : List Int} (hV : Valid N arcs) (h : Circ arcs x) (f : Nat → Int) : lift f arcs x = 0 := by
  rw [← sm_lift (N := N) f arcs x hV.ok, sm_congr (g := fun _ => 0) (fun v _ => by rw [h.zero, Int.mul_zero]), sm_zero]
theorem dot_rdot {N : Int} {arcs : List Arc} {x wl : List Int} (hV : Valid N arcs) (h : Circ arcs x) (hw : wl.length = arcs.length) (p : List Int) : dot wl x = rdot p arcs x wl := by
  rw [rdot_eq arcs x wl h.bds.1.symm hw.symm, lift_circ hV h, Int.sub_zero]
theorem part_ge {p : List Int} {a : Arc} {y q : Int} (h : a.lo ≤ y ∧ y ≤ a.hi) : rst p a q * y ≤ part p a q := by
  unfold part
  split
  · exact Int.mul_le_mul_of_nonneg_left h.2 (by omega)
  · split
    · exact Int.mul_le_mul_of_nonpos_left (by omega) h.1
    · have : rst p a q = 0 := by omega
      rw [this, Int.zero_mul]; omega
theorem rdot_le {p : List Int} : ∀ (as : List Arc) (ys qs : List Int), (∀ (i : Nat) (a : Arc) (y : Int), as[i]? = some a → ys[i]? = some y → a.lo ≤ y ∧ y ≤ a.hi) → as.length = ys.length → rdot p as ys qs ≤ bnd p as qs := by
  intro as
  induction as with
  | nil => intro ys qs _ _; simp [rdot, bnd]
  | cons a as ih =>
    intro ys qs h hl
    cases ys with
    | nil => simp at hl
    | cons y ys =>
      cases qs with
      | nil => simp [rdot, bnd]
      | cons q qs =>
        have h1 := ih ys qs (fun i b z hb hz => h (i + 1) b z (by simpa using hb) (by simpa using hz)) (by simpa using hl)
        have h2 := part_ge (p := p) (q := q) (h 0 a y rfl rfl)
        simp only [rdot, bnd]; omega
/-- The sum of a circulation is at most the bound that any potentials show. -/
theorem dual {N : Int} {arcs : List Arc} {x wl : List Int} (hV : Valid N arcs) (h : Circ arcs x) (hw : wl.length = arcs.length) (p : List Int) : dot wl x ≤ bnd p arcs wl := by
  rw [dot_rdot hV h hw p]
  exact rdot_le arcs x wl h.bds.2 h.bds.1.symm

/-- Amounts at the ends that potentials show. -/
def Slack (p : List Int) (arcs : List Arc) (x wl : List Int) : Prop :=
  ∀ (i : Nat) (a : Arc) (y q : Int), arcs[i]? = some a → x[i]? = some y → wl[i]? = some q → (0 < rst p a q → y = a.hi) ∧ (rst p a q < 0 → y = a.lo)
theorem rdot_slack {p : List Int} : ∀ (as : List Arc) (ys qs : List Int), Slack p as ys qs → as.length = ys.length → rdot p as ys qs = bnd p as qs := by
  intro as
  induction as with
  | nil => intro ys qs _ _; simp [rdot, bnd]
  | cons a as ih =>
    intro ys qs h hl
    cases ys with
    | nil => simp at hl
    | cons y ys =>
      cases qs with
      | nil => simp [rdot, bnd]
      | cons q qs =>
        have h1 := ih ys qs (fun i b z r hb hz hr => h (i + 1) b z r (by simpa using hb) (by simpa using hz) (by simpa using hr)) (by simpa using hl)
        have h2 := h 0 a y q rfl rfl rfl
        have h3 : rst p a q * y = part p a q := by
          unfold part
          split
          · rename_i hc; rw [h2.1 hc]
          · split
            · rename_i hc; rw [h2.2 hc]
            · have : rst p a q = 0 := by omega
              rw [this, Int.zero_mul]
        simp only [rdot, bnd, h1, h3]
/-- A circulation at the ends that potentials show has the sum that they bound. -/
theorem slack_eq {N : Int} {arcs : List Arc} {x wl p : List Int} (hV : Valid N arcs) (h : Circ arcs x) (hw : wl.length = arcs.length) (hs : Slack p arcs x wl) : dot wl x = bnd p arcs wl := by
  rw [dot_rdot hV h hw p]
  exact rdot_slack arcs x wl hs h.bds.1.symm

/-! ### the search for potentials -/

abbrev P0 : Nat → Int := fun _ => 0
theorem carp_splice {N : Int} {va vx vw : Value} {m p f : Nat → Int} : splice (carC N va vx vw m p) 1004 (tab 1000 f) = carC N va vx vw m f := by
  have h1 := carp_len (N := N) (va := va) (vx := vx) (vw := vw) (m := m)
  rw [carp_eq, carp_eq, splice, List.append_nil, List.append_nil, tab_length]
  rw [List.take_append_of_le_length (by omega), List.take_of_length_le (by omega), List.drop_eq_nil_of_le (by rw [List.length_append, tab_length]; omega), List.append_nil]
/-- Costs of nodes, while they are made smaller. -/
structure Sh (p c : Nat → Int) : Prop where
  nn : ∀ v, 0 ≤ p v
  lo : ∀ v, p v - 1000000 ≤ c v
  hi : ∀ v, c v ≤ 0
/-- No step among these makes a cost smaller. -/
def Still (t : List Stp) (c : Nat → Int) : Prop := ∀ s, s ∈ t → c s.dst.toNat ≤ c s.src.toNat + s.cost
def low (c : Nat → Int) : Nat := ((List.range 1000).map fun v => (c v + 1000000).toNat).sum
section
variable {N : Int} {arcs : List Arc} {wl x : List Int} {mo p c : Nat → Int}

theorem Sh.start (hp : ∀ v, 0 ≤ p v ∧ p v ≤ 1000000) : Sh p fun _ => 0 := ⟨fun v => (hp v).1, fun v => by have := hp v; omega, fun v => Int.le_refl _⟩

theorem step0 (hr : ∀ s, s ∈ stps p 0 arcs x wl → 0 ≤ s.cost) (hw : Wts arcs wl) {s : Stp} (hs : s ∈ stps P0 0 arcs x wl) : p s.dst.toNat - p s.src.toNat ≤ s.cost ∧ -1000 ≤ s.cost ∧ s.cost ≤ 1000 := by
  obtain ⟨d, hd1, hd2, hd⟩ := step_cost hw hs
  obtain ⟨c', h1, h2, _⟩ := hd p
  obtain ⟨c0, _, h4, h5⟩ := hd P0
  have := hr _ h1
  have := h5 rfl
  simp only [P0] at h4
  simp only at *
  omega

theorem Sh.relax (h : Sh p c) (hr : ∀ s, s ∈ stps p 0 arcs x wl → 0 ≤ s.cost) (hw : Wts arcs wl) (hV : Valid N arcs) {s : Stp} (hs : s ∈ stps P0 0 arcs x wl) (hlt : c s.src.toNat + s.cost < c s.dst.toNat) :
    Sh p (upf c s.dst.toNat (c s.src.toNat + s.cost)) ∧ low (upf c s.dst.toNat (c s.src.toNat + s.cost)) < low c := by
  have h1 := step0 hr hw hs
  have h2 := h.lo s.src.toNat
  have h3 := h.hi s.dst.toNat
  have hok := stps_ok hV hs
  have hpd := h.lo s.dst.toNat
  have hpn := h.nn s.dst.toNat
  refine ⟨⟨h.nn, fun v => ?_, fun v => ?_⟩, ?_⟩
  · unfold upf; split
    · rename_i e; subst e; omega
    · exact h.lo v
  · unfold upf; split
    · omega
    · exact h.hi v
  · unfold low
    refine sum_lt (u := s.dst.toNat) (fun v => ?_) (List.mem_range.2 (by have := hV.max; omega)) ?_
    · unfold upf; split
      · rename_i e; subst e; omega
      · exact Nat.le_refl _
    · simp only [upf, if_true]
      omega

/-- What a round over steps has done. -/
def Rd1 (p c : Nat → Int) (t : List Stp) (c' : Nat → Int) (m : Bool) : Prop := Sh p c' ∧ (m = false → c' = c ∧ Still t c) ∧ (m = true → low c' < low c)
def mu (c : Nat → Int) (m : Bool) : Nat := bif m then low c + 1 else 0
theorem Rd1.start (h : Sh p c) : Rd1 p c [] c false := ⟨h, fun _ => ⟨rfl, fun _ h => by cases h⟩, fun h => by cases h⟩
theorem Rd1.keep {c' : Nat → Int} {m : Bool} {t : List Stp} {s : Stp} (h : Rd1 p c t c' m) (hn : ¬ c' s.src.toNat + s.cost < c' s.dst.toNat) : Rd1 p c (t ++ [s]) c' m := by
  refine ⟨h.1, fun hm => ⟨(h.2.1 hm).1, fun u hu => ?_⟩, h.2.2⟩
  rcases List.mem_append.1 hu with hu | hu
  · exact (h.2.1 hm).2 u hu
  · have : u = s := by simpa using hu
    subst this
    rw [(h.2.1 hm).1] at hn
    omega
theorem Rd1.relax {c' : Nat → Int} {m : Bool} {t : List Stp} {s : Stp} (h : Rd1 p c t c' m) (hr : ∀ s, s ∈ stps p 0 arcs x wl → 0 ≤ s.cost) (hw : Wts arcs wl) (hV : Valid N arcs) (hs : s ∈ stps P0 0 arcs x wl) (hlt : c' s.src.toNat + s.cost < c' s.dst.toNat) :
    Rd1 p c (t ++ [s]) (upf c' s.dst.toNat (c' s.src.toNat + s.cost)) true := by
  obtain ⟨h1, h2⟩ := h.1.relax hr hw hV hs hlt
  refine ⟨h1, fun h => (by cases h), fun _ => ?_⟩
  cases m with
  | false => rw [(h.2.1 rfl).1] at h2 ⊢; exact h2
  | true => have := h.2.2 rfl; omega
theorem Rd1.less {c' : Nat → Int} {m : Bool} {t : List Stp} (h : Rd1 p c t c' m) : mu c' m < mu c true := by
  cases m with
  | false => simp [mu]
  | true => have := h.2.2 rfl; simp [mu]; exact this
theorem Rd1.still {c' : Nat → Int} {m : Bool} {t : List Stp} (h : Rd1 p c t c' m) (hm : m = false) : Still t c' := by rw [(h.2.1 hm).1]; exact (h.2.1 hm).2

/-- The potentials that costs give. -/
def outp (N : Int) (c : Nat → Int) : List Int := (List.range N.toNat).map fun v => -(c v)
theorem outp_len (N : Int) (c : Nat → Int) : (outp N c).length = N.toNat := by simp [outp]
theorem outp_get {N : Int} {c : Nat → Int} {v : Nat} (h : v < N.toNat) : (outp N c)[v]? = some (-(c v)) := by simp [outp, h]
theorem Sh.pts (h : Sh p c) (hN : 1 ≤ N) : Pts N (outp N c) := by
  refine ⟨by rw [outp_len]; omega, fun y hy => ?_⟩
  simp only [outp, List.mem_map, List.mem_range] at hy
  obtain ⟨v, _, rfl⟩ := hy
  have h1 := h.lo v
  have h2 := h.hi v
  have h3 := h.nn v
  omega
theorem Still.slack (hV : Valid N arcs) (hb : Bds arcs x) (hs : Still (stps P0 0 arcs x wl) c) : Slack (outp N c) arcs x wl := by
  intro i a y q ha hy hq
  have hok := hV.at ha
  have h1 : nth (outp N c) a.src.toNat = -(c a.src.toNat) := nth_of (outp_get (by omega))
  have h2 : nth (outp N c) a.dst.toNat = -(c a.dst.toNat) := nth_of (outp_get (by omega))
  have h3 := hb.2 i a y ha hy
  unfold rst
  rw [h1, h2]
  refine ⟨fun hp => ?_, fun hp => ?_⟩
  · apply Classical.byContradiction
    intro hne
    have h4 := hs _ (mem_stps_of (p := P0) ha hy hq (mem_stp1.2 (.inl ⟨by omega, rfl⟩)))
    simp only [fwd, cst, P0] at h4
    omega
  · apply Classical.byContradiction
    intro hne
    have h4 := hs _ (mem_stps_of (p := P0) ha hy hq (mem_stp1.2 (.inr ⟨by omega, rfl⟩)))
    simp only [bwd, cst, P0] at h4
    omega
end

/-- A circulation with the greatest sum, and potentials that show it. -/
structure Opt (N : Int) (arcs : List Arc) (wl x q : List Int) : Prop where
  circ : Circ arcs x
  pts : Pts N q
  slack : Slack q arcs x wl
theorem Opt.eq {N : Int} {arcs : List Arc} {wl x q : List Int} (h : Opt N arcs wl x q) (hV : Valid N arcs) (hw : wl.length = arcs.length) : dot wl x = bnd q arcs wl := slack_eq hV h.circ hw h.slack
theorem Opt.max {N : Int} {arcs : List Arc} {wl x q y : List Int} (h : Opt N arcs wl x q) (hV : Valid N arcs) (hw : wl.length = arcs.length) (hy : Circ arcs y) : dot wl y ≤ dot wl x := by
  rw [h.eq hV hw]; exact dual hV hy hw q
/-- Equal sums, so the other circulation lies at the same ends. -/
theorem slack_of {p : List Int} : ∀ (as : List Arc) (ys qs : List Int), (∀ (i : Nat) (a : Arc) (y : Int), as[i]? = some a → ys[i]? = some y → a.lo ≤ y ∧ y ≤ a.hi) → as.length = ys.length → bnd p as qs ≤ rdot p as ys qs → Slack p as ys qs := by
  intro as
  induction as with
  | nil => intro ys qs _ _ _ i a y q ha; simp at ha
  | cons a as ih =>
    intro ys qs h hl hle
    cases ys with
    | nil => simp at hl
    | cons y ys =>
      cases qs with
      | nil => intro i b z r _ _ hr; simp at hr
      | cons q qs =>
        have h0 := fun (i : Nat) (b : Arc) (z : Int) hb hz => h (i + 1) b z (by simpa using hb) (by simpa using hz)
        have h1 := rdot_le (p := p) as ys qs h0 (by simpa using hl)
        have h2 := part_ge (p := p) (q := q) (h 0 a y rfl rfl)
        have h5 := h 0 a y rfl rfl
        simp only [rdot, bnd] at hle
        have h3 := ih ys qs h0 (by simpa using hl) (by omega)
        intro i b z r hb hz hr
        cases i with
        | zero =>
          simp at hb hz hr
          subst hb; subst hz; subst hr
          have h4 : part p a q ≤ rst p a q * y := by omega
          refine ⟨fun hp => ?_, fun hp => ?_⟩
          · rw [part_pos hp] at h4
            have := Int.le_of_mul_le_mul_left h4 hp
            omega
          · rw [part_neg hp] at h4
            apply Classical.byContradiction
            intro hne
            have h6 : a.lo < y := by omega
            have h7 := Int.mul_lt_mul_of_neg_left h6 hp
            omega
        | succ i => exact h3 i b z r (by simpa using hb) (by simpa using hz) (by simpa using hr)
theorem Opt.other {N : Int} {arcs : List Arc} {wl x q y : List Int} (h : Opt N arcs wl x q) (hV : Valid N arcs) (hw : wl.length = arcs.length) (hy : Circ arcs y) (he : dot wl x ≤ dot wl y) : Slack q arcs y wl := by
  refine slack_of arcs y wl hy.bds.2 hy.bds.1.symm ?_
  rw [← dot_rdot hV hy hw, ← h.eq hV hw]; exact he

/-! ### one arc -/

/-- Weights in which one arc alone has one. -/
def unit (n : Nat) (i : Nat) (k : Int) : List Int := (List.replicate n 0).set i k
theorem unit_length (n i : Nat) (k : Int) : (unit n i k).length = n := by simp [unit]
theorem dot_zero : ∀ (n : Nat) (x : List Int), dot (List.replicate n 0) x = 0 := by
  intro n
  induction n with
  | zero => intro x; simp [dot]
  | succ n ih =>
    intro x
    cases x with
    | nil => simp [List.replicate_succ, dot]
    | cons y x => simp [List.replicate_succ, dot, ih]
theorem dot_unit {k y : Int} : ∀ (n i : Nat) (x : List Int), i < n → x[i]? = some y → dot (unit n i k) x = k * y := by
  intro n
  induction n with
  | zero => intro i x h; omega
  | succ n ih =>
    intro i x h hx
    cases x with
    | nil => simp at hx
    | cons z x =>
      cases i with
      | zero => simp at hx; subst hx; simp [unit, List.replicate_succ, dot, dot_zero]
      | succ i =>
        have := ih i x (by omega) (by simpa using hx)
        simp only [unit, List.replicate_succ, List.set_cons_succ, dot] at this ⊢
        rw [this]; omega
theorem unit_wts {arcs : List Arc} {i : Nat} {k : Int} (h : -1000 ≤ k ∧ k ≤ 1000) : Wts arcs (unit arcs.length i k) := by
  refine ⟨unit_length .., fun y hy => ?_⟩
  rcases List.mem_or_eq_of_mem_set hy with h1 | h1
  · have := List.eq_of_mem_replicate h1; omega
  · omega
end Go.Vk.Flow

/- Nets, as plain mathematics, part 5: what the package's functions answer. No program in sight. -/
namespace Go.Vk.Flow
open Go

/-- There is no circulation. -/
def NoC (N : Int) (arcs : List Arc) : Prop := ∃ A ns, hind N arcs A ns = true
theorem NoC.no {N : Int} {arcs : List Arc} (h : NoC N arcs) (hV : Valid N arcs) {x : List Int} (hc : Circ arcs x) : False := let ⟨_, _, hh⟩ := h; hind_no hV hh hc

theorem zero_wts (arcs : List Arc) : Wts arcs (List.replicate arcs.length 0) := ⟨List.length_replicate, fun y hy => by have := List.eq_of_mem_replicate hy; omega⟩

/-- What Some answers. -/
inductive SomeR (N : Int) (arcs : List Arc) : List Int → Int → Prop
  | bad : chk N arcs ≠ 0 → SomeR N arcs [] (chk N arcs)
  | no : Valid N arcs → NoC N arcs → SomeR N arcs [] 60
  | yes {x : List Int} : Valid N arcs → Circ arcs x → SomeR N arcs x 0
/-- What Obstacle answers. -/
inductive ObsR (N : Int) (arcs : List Arc) : Int → List Int → Bool → Int → Prop
  | bad : chk N arcs ≠ 0 → ObsR N arcs 0 [] false (chk N arcs)
  | no {A : Int} {ns : List Int} : Valid N arcs → hind N arcs A ns = true → ObsR N arcs A ns true 0
  | yes {x : List Int} : Valid N arcs → Circ arcs x → ObsR N arcs 0 [] false 0

def askw (N : Int) (arcs : List Arc) (wl : List Int) : Int := askd N arcs (row wl arcs.length (-1000) 1000)
theorem askw_zero {N : Int} {arcs : List Arc} {wl : List Int} : askw N arcs wl = 0 ↔ Valid N arcs ∧ Wts arcs wl := by rw [askw, askd_zero, row_wts]
/-- What Greatest answers: the sum, the amounts, the potentials, the error. -/
inductive GrR (N : Int) (arcs : List Arc) (wl : List Int) : Int → List Int → List Int → Int → Prop
  | bad : askw N arcs wl ≠ 0 → GrR N arcs wl 0 [] [] (askw N arcs wl)
  | no : Valid N arcs → Wts arcs wl → NoC N arcs → GrR N arcs wl 0 [] [] 60
  | yes {x q : List Int} : Valid N arcs → Wts arcs wl → Opt N arcs wl x q → GrR N arcs wl (dot wl x) x q 0

theorem row_neg (wl : List Int) (n : Int) : row (wl.map (- ·)) n (-1000) 1000 = row wl n (-1000) 1000 := by
  rw [Bool.eq_iff_iff, row_iff, row_iff, List.length_map]
  constructor
  · rintro ⟨h1, h2⟩
    refine ⟨h1, fun x hx => ?_⟩
    have := h2 (-x) (List.mem_map.2 ⟨x, hx, rfl⟩)
    omega
  · rintro ⟨h1, h2⟩
    refine ⟨h1, fun x hx => ?_⟩
    obtain ⟨y, hy, rfl⟩ := List.mem_map.1 hx
    have := h2 y hy
    show -1000 ≤ -y ∧ -y ≤ 1000
    omega
theorem askw_neg (N : Int) (arcs : List Arc) (wl : List Int) : askw N arcs (wl.map (- ·)) = askw N arcs wl := by rw [askw, row_neg]; rfl
theorem GrR.badneg {N : Int} {arcs : List Arc} {wl : List Int} (h : askw N arcs wl ≠ 0) : GrR N arcs (wl.map (- ·)) 0 [] [] (askw N arcs wl) := by
  rw [← askw_neg] at h ⊢; exact .bad h
theorem neg_wts {arcs : List Arc} {wl : List Int} (h : Wts arcs wl) : Wts arcs (wl.map (- ·)) := by
  have := row_wts.2 h
  rw [← row_neg] at this
  exact row_wts.1 this

def inb (arcs : List Arc) (i : Int) : Bool := decide (0 ≤ i ∧ i ≤ (arcs.length : Int) - 1)
def aski (N : Int) (arcs : List Arc) (i : Int) : Int := askd N arcs (inb arcs i)
theorem aski_zero {N : Int} {arcs : List Arc} {i : Int} : aski N arcs i = 0 ↔ Valid N arcs ∧ 0 ≤ i ∧ i < arcs.length := by
  rw [aski, askd_zero, inb, decide_eq_true_eq]
  constructor
  · rintro ⟨h1, h2⟩; exact ⟨h1, by omega⟩
  · rintro ⟨h1, h2⟩; exact ⟨h1, by omega⟩
theorem Opt.unit_eq {N : Int} {arcs : List Arc} {i : Nat} {k : Int} {x q : List Int} (h : Opt N arcs (unit arcs.length i k) x q) (hi : i < arcs.length) : dot (unit arcs.length i k) x = k * nth x i :=
  dot_unit arcs.length i x hi (nth_get (by rw [h.circ.bds.1]; exact hi))
/-- What Range answers: the least amount of an arc, the greatest, the error. -/
inductive RaR (N : Int) (arcs : List Arc) (i : Int) : Int → Int → Int → Prop
  | bad : aski N arcs i ≠ 0 → RaR N arcs i 0 0 (aski N arcs i)
  | no : aski N arcs i = 0 → NoC N arcs → RaR N arcs i 0 0 60
  | yes {x q y r : List Int} : aski N arcs i = 0 → Opt N arcs (unit arcs.length i.toNat (-1)) x q → Opt N arcs (unit arcs.length i.toNat 1) y r → RaR N arcs i (nth x i.toNat) (nth y i.toNat) 0

/-- What one end of a range answers. -/
inductive EndR (N : Int) (arcs : List Arc) (i : Nat) (k : Int) : Int → Int → Prop
  | no : NoC N arcs → EndR N arcs i k 0 60
  | yes {x q : List Int} : Opt N arcs (unit arcs.length i k) x q → EndR N arcs i k (nth x i) 0
theorem GrR.low {N : Int} {arcs : List Arc} {i : Nat} {n e : Int} {x q : List Int} (h : GrR N arcs (unit arcs.length i (-1)) n x q e) (hV : Valid N arcs) (hi : i < arcs.length) : EndR N arcs i (-1) (-n) e := by
  cases h with
  | bad h => exact absurd (askw_zero.2 ⟨hV, unit_wts (by omega)⟩) h
  | no _ _ h => exact .no h
  | yes _ _ h =>
    rw [h.unit_eq hi]
    have e : -(-1 * nth x i) = nth x i := by omega
    rw [e]
    exact .yes h
theorem GrR.high {N : Int} {arcs : List Arc} {i : Nat} {n e : Int} {x q : List Int} (h : GrR N arcs (unit arcs.length i 1) n x q e) (hV : Valid N arcs) (hi : i < arcs.length) : EndR N arcs i 1 n e := by
  cases h with
  | bad h => exact absurd (askw_zero.2 ⟨hV, unit_wts (by omega)⟩) h
  | no _ _ h => exact .no h
  | yes _ _ h =>
    rw [h.unit_eq hi, Int.one_mul]
    exact .yes h
theorem RaR.of {N : Int} {arcs : List Arc} {i : Int} {n m e f : Int} (h0 : aski N arcs i = 0) (h : EndR N arcs i.toNat (-1) n e) (he : e = 0) (h' : EndR N arcs i.toNat 1 m f) (hf : f = 0) : RaR N arcs i n m 0 := by
  cases h with
  | no => cases he
  | yes h1 =>
    cases h' with
    | no => cases hf
    | yes h2 => exact .yes h0 h1 h2
theorem EndR.cut {N : Int} {arcs : List Arc} {i : Nat} {k n e : Int} (h : EndR N arcs i k n e) (he : e ≠ 0) : e = 60 ∧ NoC N arcs := by
  cases h with
  | no h => exact ⟨rfl, h⟩
  | yes => exact absurd rfl he
theorem GrR.bd {N : Int} {arcs : List Arc} {wl x q : List Int} {n e : Int} (h : GrR N arcs wl n x q e) : -4000000000000 ≤ n ∧ n ≤ 4000000000000 := by
  cases h with
  | bad => omega
  | no => omega
  | yes hV hw ho =>
    have h1 := dot_bd_take (ys := wl) (zs := x) (by have := hV.len; have := hw.len; omega) hw.bd (ho.circ.amts hV).bd wl.length
    rw [List.take_length, List.take_of_length_le (by rw [ho.circ.bds.1, hw.len]; exact Nat.le_refl _)] at h1
    exact h1
/-- The two ends, in order. -/
def sgn (i : Nat) : Int := if i = 0 then -1 else 1
theorem Ends.more {N : Int} {arcs : List Arc} {i k : Nat} {f : Nat → Int} {n e : Int} (h : ∀ j, j < i → EndR N arcs k (sgn j) (f j) 0) (hn : EndR N arcs k (sgn i) n e) (he : e = 0) : ∀ j, j < i + 1 → EndR N arcs k (sgn j) (upf f i n j) 0 := by
  subst he
  intro j hj
  unfold upf
  by_cases e : j = i
  · subst e; rw [if_pos rfl]; exact hn
  · rw [if_neg e]; exact h j (by omega)
theorem Ends.done {N : Int} {arcs : List Arc} {i : Int} {f : Nat → Int} (h0 : aski N arcs i = 0) (h : ∀ j, j < 2 → EndR N arcs i.toNat (sgn j) (f j) 0) : RaR N arcs i (f 0) (f 1) 0 := RaR.of h0 (h 0 (by decide)) rfl (h 1 (by decide)) rfl
/-- A list of functions that have taken one argument. -/
def fnE (T : TypeId) (c : Value) : Elt Nat where
  T := T
  sz := 1
  enc k := [.func (.func k) #[c] #[]]
  zero := [.nilFunc]
  len _ := rfl
  zlen := rfl
  one a x h := by simp at h; subst h; rfl
  pos := by decide
end Go.Vk.Flow

/- Nets, as plain mathematics, part 6: nets made of nets. No program in sight. -/
namespace Go.Vk.Flow
open Go

theorem set_get {α : Type} {l : List α} {i : Nat} {a b : α} (h : l[i]? = some a) : (l.set i b)[i]? = some b := List.getElem?_set_self (List.getElem?_eq_some_iff.1 h).1
theorem set_same {α : Type} {l : List α} {i : Nat} {a : α} (h : l[i]? = some a) : l.set i a = l := by
  obtain ⟨hi, rfl⟩ := List.getElem?_eq_some_iff.1 h
  exact List.set_getElem_self hi

/-! ### narrower -/

def rg (x m : Int) : Bool := decide (0 ≤ x ∧ x ≤ m)
/-- The error of Narrow. -/
def narE (N : Int) (arcs : List Arc) (i lo hi r : Int) : Int := askd N arcs (inb arcs i && rg lo 1000000 && rg hi 1000000 && rg r 1000000)
theorem narE_zero {N : Int} {arcs : List Arc} {i lo hi r : Int} : narE N arcs i lo hi r = 0 ↔ Valid N arcs ∧ (0 ≤ i ∧ i < arcs.length) ∧ (0 ≤ lo ∧ lo ≤ 1000000) ∧ (0 ≤ hi ∧ hi ≤ 1000000) ∧ 0 ≤ r ∧ r ≤ 1000000 := by
  rw [narE, askd_zero]
  simp only [inb, rg, Bool.and_eq_true, decide_eq_true_eq]
  constructor
  · rintro ⟨h0, ⟨⟨h1, h2⟩, h3⟩, h4⟩; exact ⟨h0, by omega, h2, h3, h4⟩
  · rintro ⟨h0, h1, h2, h3, h4⟩; exact ⟨h0, ⟨⟨by omega, h2⟩, h3⟩, h4⟩
def narLo (a : Arc) (lo r : Int) : Arc := if a.lo < lo then ⟨a.src, a.dst, lo, a.hi, r, a.hiBy⟩ else a
def narHi (a : Arc) (hi r : Int) : Arc := if hi < a.hi then ⟨a.src, a.dst, a.lo, hi, a.loBy, r⟩ else a
def nar1 (a : Arc) (lo hi r : Int) : Arc := narHi (narLo a lo r) hi r
/-- The net in which an arc is narrowed. -/
def nar (arcs : List Arc) (i : Nat) (lo hi r : Int) : List Arc := match arcs[i]? with | some a => arcs.set i (nar1 a lo hi r) | none => arcs
section
variable {arcs : List Arc} {i : Nat} {lo hi r : Int} {a : Arc}
theorem nar_of (ha : arcs[i]? = some a) : nar arcs i lo hi r = arcs.set i (nar1 a lo hi r) := by rw [nar, ha]
theorem nar00 (ha : arcs[i]? = some a) (h1 : ¬ a.lo < lo) (h2 : ¬ hi < a.hi) : arcs = nar arcs i lo hi r := by
  rw [nar_of ha, nar1, narLo, if_neg h1, narHi, if_neg h2, set_same ha]
theorem nar10 (ha : arcs[i]? = some a) (h1 : a.lo < lo) (h2 : ¬ hi < a.hi) : (arcs.set i ⟨a.src, a.dst, lo, a.hi, a.loBy, a.hiBy⟩).set i ⟨a.src, a.dst, lo, a.hi, r, a.hiBy⟩ = nar arcs i lo hi r := by
  rw [nar_of ha, nar1, narLo, if_pos h1, narHi, if_neg h2, List.set_set]
theorem nar01 (ha : arcs[i]? = some a) (h1 : ¬ a.lo < lo) (h2 : hi < a.hi) : (arcs.set i ⟨a.src, a.dst, a.lo, hi, a.loBy, a.hiBy⟩).set i ⟨a.src, a.dst, a.lo, hi, a.loBy, r⟩ = nar arcs i lo hi r := by
  rw [nar_of ha, nar1, narLo, if_neg h1, narHi, if_pos h2, List.set_set]
theorem nar11 (ha : arcs[i]? = some a) (h1 : a.lo < lo) (h2 : hi < a.hi) : (((arcs.set i ⟨a.src, a.dst, lo, a.hi, a.loBy, a.hiBy⟩).set i ⟨a.src, a.dst, lo, a.hi, r, a.hiBy⟩).set i ⟨a.src, a.dst, lo, hi, r, a.hiBy⟩).set i ⟨a.src, a.dst, lo, hi, r, r⟩ = nar arcs i lo hi r := by
  rw [nar_of ha, nar1, narLo, if_pos h1, narHi, if_pos h2, List.set_set, List.set_set, List.set_set]
end

/-! ### without a record -/

def wotE (N : Int) (arcs : List Arc) (r : Int) : Int := askd N arcs (decide (1 ≤ r ∧ r ≤ 1000000))
theorem wotE_zero {N : Int} {arcs : List Arc} {r : Int} : wotE N arcs r = 0 ↔ Valid N arcs ∧ 1 ≤ r ∧ r ≤ 1000000 := by
  rw [wotE, askd_zero, decide_eq_true_eq]
def wotLo (a : Arc) (r : Int) : Arc := if a.loBy = r then ⟨a.src, a.dst, 0, a.hi, 0, a.hiBy⟩ else a
def wotHi (a : Arc) (r : Int) : Arc := if a.hiBy = r then ⟨a.src, a.dst, a.lo, 1000000, a.loBy, 0⟩ else a
def wot1 (r : Int) (a : Arc) : Arc := wotHi (wotLo a r) r
def wot (arcs : List Arc) (r : Int) : List Arc := arcs.map (wot1 r)

/-- A list of which the first i elements are turned. -/
def prm {α : Type} (f : α → α) (l : List α) (i : Nat) : List α := (l.take i).map f ++ l.drop i
section
variable {α : Type} {f : α → α} {l : List α} {i : Nat} {a : α}
theorem prm_zero : prm f l 0 = l := by simp [prm]
theorem prm_full : prm f l l.length = l.map f := by simp [prm]
theorem prm_length : (prm f l i).length = l.length := by simp [prm]; omega
theorem prm_get (h : l[i]? = some a) : (prm f l i)[i]? = some a := by
  have hi := (List.getElem?_eq_some_iff.1 h).1
  have h1 : ((l.take i).map f).length = i := by rw [List.length_map, List.length_take]; omega
  rw [prm, List.getElem?_append_right (by omega), h1, Nat.sub_self, List.getElem?_drop]; exact h
theorem prm_step (h : l[i]? = some a) : (prm f l i).set i (f a) = prm f l (i + 1) := by
  obtain ⟨hi, rfl⟩ := List.getElem?_eq_some_iff.1 h
  have h1 : ((l.take i).map f).length = i := by rw [List.length_map, List.length_take]; omega
  rw [prm, prm, List.set_append_right i _ (by omega), h1, Nat.sub_self, List.drop_eq_getElem_cons hi, List.set_cons_zero, List.take_succ_eq_append_getElem hi, List.map_append, List.append_assoc]
  rfl
end
section
variable {r : Int} {a : Arc}
theorem wot00 (h1 : ¬ a.loBy = r) (h2 : ¬ a.hiBy = r) : wot1 r a = a := by rw [wot1, wotLo, if_neg h1, wotHi, if_neg h2]
theorem wot10 (h1 : a.loBy = r) (h2 : ¬ a.hiBy = r) : wot1 r a = ⟨a.src, a.dst, 0, a.hi, 0, a.hiBy⟩ := by rw [wot1, wotLo, if_pos h1, wotHi, if_neg h2]
theorem wot01 (h1 : ¬ a.loBy = r) (h2 : a.hiBy = r) : wot1 r a = ⟨a.src, a.dst, a.lo, 1000000, a.loBy, 0⟩ := by rw [wot1, wotLo, if_neg h1, wotHi, if_pos h2]
theorem wot11 (h1 : a.loBy = r) (h2 : a.hiBy = r) : wot1 r a = ⟨a.src, a.dst, 0, 1000000, 0, 0⟩ := by rw [wot1, wotLo, if_pos h1, wotHi, if_pos h2]
end

/-! ### joined -/

def joinE (N : Int) (arcs : List Arc) (M : Int) (brcs : List Arc) : Int :=
  if chk N arcs ≠ 0 then chk N arcs else if chk M brcs ≠ 0 then chk M brcs else if N ≠ M then 1 else if 4000 < (arcs.length : Int) + brcs.length then 2 else 0

/-! ### through -/

def inb2 (arcs : List Arc) (i : Nat) (k : Int) : Bool := match arcs[i]? with | some a => decide (a.lo ≤ k ∧ k ≤ a.hi) | none => false
/-- The net in which an arc has one amount alone. -/
def fix (arcs : List Arc) (i : Nat) (k : Int) : List Arc := match arcs[i]? with | some a => arcs.set i ⟨a.src, a.dst, k, k, a.loBy, a.hiBy⟩ | none => arcs
/-- What Through answers. -/
inductive ThR (N : Int) (arcs : List Arc) (i k : Int) : List Int → Bool → Int → Prop
  | bad : aski N arcs i ≠ 0 → ThR N arcs i k [] false (aski N arcs i)
  | out : aski N arcs i = 0 → inb2 arcs i.toNat k = false → ThR N arcs i k [] false 0
  | no : aski N arcs i = 0 → inb2 arcs i.toNat k = true → NoC N (fix arcs i.toNat k) → ThR N arcs i k [] false 0
  | yes {x : List Int} : aski N arcs i = 0 → inb2 arcs i.toNat k = true → Circ (fix arcs i.toNat k) x → ThR N arcs i k x true 0
theorem fix_valid {N : Int} {arcs : List Arc} {i : Nat} {k : Int} (hV : Valid N arcs) (hk : inb2 arcs i k = true) : Valid N (fix arcs i k) := by
  unfold fix
  unfold inb2 at hk
  cases ha : arcs[i]? with
  | none => rw [ha] at hk; exact hV
  | some a =>
    rw [ha] at hk
    have hk : a.lo ≤ k ∧ k ≤ a.hi := by simpa using hk
    have hok := hV.at ha
    refine ⟨hV.pos, hV.max, by rw [List.length_set]; exact hV.len, fun b hb => ?_⟩
    rcases List.mem_or_eq_of_mem_set hb with h | h
    · exact hV.ok b h
    · subst h; rw [okArc_iff]; simp only; omega
theorem ThR.of {N : Int} {arcs : List Arc} {i k : Int} {x : List Int} {e : Int} (h0 : aski N arcs i = 0) (hk : inb2 arcs i.toNat k = true) (h : SomeR N (fix arcs i.toNat k) x e) : ThR N arcs i k x (decide (e = 0)) 0 := by
  cases h with
  | bad hb => exact absurd (chk_zero.2 (fix_valid (aski_zero.1 h0).1 hk)) hb
  | no _ hn => exact .no h0 hk hn
  | yes _ hc => exact .yes h0 hk hc
end Go.Vk.Flow

/- Nets, as plain mathematics, part 7: the chapter's example. No program in sight. -/
namespace Go.Vk.Flow
open Go

theorem sorted_eq : ∀ (s t : List Int), s.Pairwise (· < ·) → t.Pairwise (· < ·) → (∀ x, x ∈ s ↔ x ∈ t) → s = t := by
  intro s
  induction s with
  | nil =>
    intro t _ _ h
    cases t with
    | nil => rfl
    | cons a t => exact absurd ((h a).2 (List.mem_cons_self ..)) (by simp)
  | cons a s ih =>
    intro t hs ht h
    cases t with
    | nil => exact absurd ((h a).1 (List.mem_cons_self ..)) (by simp)
    | cons b t =>
      obtain ⟨hs1, hs2⟩ := List.pairwise_cons.1 hs
      obtain ⟨ht1, ht2⟩ := List.pairwise_cons.1 ht
      have e : a = b := by
        have h1 := (h a).1 (List.mem_cons_self ..)
        have h2 := (h b).2 (List.mem_cons_self ..)
        rcases List.mem_cons.1 h1 with h1 | h1
        · exact h1
        · rcases List.mem_cons.1 h2 with h2 | h2
          · exact h2.symm
          · have := ht1 a h1; have := hs1 b h2; omega
      subst e
      rw [ih t hs2 ht2 fun x => ?_]
      constructor
      · intro hx
        rcases List.mem_cons.1 ((h x).1 (List.mem_cons_of_mem _ hx)) with h1 | h1
        · have := hs1 x hx; omega
        · exact h1
      · intro hx
        rcases List.mem_cons.1 ((h x).2 (List.mem_cons_of_mem _ hx)) with h1 | h1
        · have := ht1 x hx; omega
        · exact h1
theorem lst_eq {l t : List Int} (ht : t.Pairwise (· < ·)) (h : ∀ x, x ∈ t ↔ x ∈ l ∧ x ≠ 0) : lst l = t :=
  sorted_eq _ _ (lst_sorted l) ht fun x => by rw [mem_lst, h]

def netA : List Arc := [⟨0, 1, 2, 5, 1, 2⟩, ⟨1, 2, 0, 4, 0, 3⟩, ⟨2, 0, 0, 9, 0, 0⟩, ⟨1, 0, 0, 3, 0, 4⟩]
def netB : List Arc := [⟨0, 1, 2, 5, 1, 2⟩, ⟨1, 2, 0, 0, 0, 7⟩, ⟨2, 0, 0, 9, 0, 0⟩, ⟨1, 0, 0, 3, 0, 4⟩]
def netC : List Arc := [⟨0, 1, 2, 5, 1, 2⟩, ⟨1, 2, 0, 0, 0, 7⟩, ⟨2, 0, 0, 9, 0, 0⟩, ⟨1, 0, 0, 1, 0, 8⟩]
theorem chkA : chk 3 netA = 0 := by decide
theorem chkC : chk 3 netC = 0 := by decide
theorem validA : Valid 3 netA := chk_zero.1 chkA
theorem validC : Valid 3 netC := chk_zero.1 chkC
theorem kept3 (x : List Int) : kept 1000 netA x = kept 3 netA x := kept_big (N := 3) validA.ok (by decide)
theorem netK1 : (decide (askd 3 netA (row [3, 2, 2, 1] netA.length 0 1000000) = 0) && kept 1000 netA [3, 2, 2, 1]) = true := by rw [kept3]; decide
theorem netK2 : (decide (askd 3 netA (row [1, 1, 1, 0] netA.length 0 1000000) = 0) && kept 1000 netA [1, 1, 1, 0]) = false := by rw [kept3]; decide
theorem netE1 : askd 3 netA (row [3, 2, 2, 1] netA.length 0 1000000) = 0 := by decide
theorem netE2 : askd 3 netA (row [1, 1, 1, 0] netA.length 0 1000000) = 0 := by decide

/-- The example's circulations, by their four amounts. -/
theorem circA {x : List Int} (h : Circ netA x) : ∃ a b c d, x = [a, b, c, d] ∧ 2 ≤ a ∧ a ≤ 5 ∧ 0 ≤ b ∧ b ≤ 4 ∧ 0 ≤ c ∧ c ≤ 9 ∧ 0 ≤ d ∧ d ≤ 3 ∧ a = b + d ∧ b = c := by
  obtain ⟨⟨hl, hb⟩, hz⟩ := h
  match x, hl with
  | [a, b, c, d], _ =>
    have h0 := hb 0 _ a rfl rfl
    have h1 := hb 1 _ b rfl rfl
    have h2 := hb 2 _ c rfl rfl
    have h3 := hb 3 _ d rfl rfl
    have z0 := hz 0
    have z1 := hz 1
    have z2 := hz 2
    simp [ex, netA] at h0 h1 h2 h3 z0 z1 z2
    exact ⟨a, b, c, d, rfl, by omega⟩
theorem circA_of {a b c d : Int} (h : 2 ≤ a ∧ a ≤ 5 ∧ 0 ≤ b ∧ b ≤ 4 ∧ 0 ≤ c ∧ c ≤ 9 ∧ 0 ≤ d ∧ d ≤ 3 ∧ a = b + d ∧ b = c) : Circ netA [a, b, c, d] := by
  refine ⟨⟨rfl, fun i p y hp hy => ?_⟩, fun v => ?_⟩
  · match i with
    | 0 => simp [netA] at hp hy; subst hp; subst hy; simp; omega
    | 1 => simp [netA] at hp hy; subst hp; subst hy; simp; omega
    | 2 => simp [netA] at hp hy; subst hp; subst hy; simp; omega
    | 3 => simp [netA] at hp hy; subst hp; subst hy; simp; omega
    | i + 4 => simp [netA] at hp
  · simp only [ex, netA]
    match v with
    | 0 => simp; omega
    | 1 => simp; omega
    | 2 => simp; omega
    | v + 3 =>
      have e0 : ¬ (0 : Int) = (v : Int) + 3 := by omega
      have e1 : ¬ (1 : Int) = (v : Int) + 3 := by omega
      have e2 : ¬ (2 : Int) = (v : Int) + 3 := by omega
      simp [e0, e1, e2]
theorem dot4 (p q r s a b c d : Int) : dot [p, q, r, s] [a, b, c, d] = p * a + (q * b + (r * c + (s * d + 0))) := rfl
theorem not_noA : ¬ NoC 3 netA := fun h => h.no validA (circA_of (a := 4) (b := 4) (c := 4) (d := 0) (by decide))

theorem netR {lo hi e : Int} (h : RaR 3 netA 0 lo hi e) : lo = 2 ∧ hi = 5 ∧ e = 0 := by
  cases h with
  | bad h => exact absurd (aski_zero.2 ⟨validA, by decide, by decide⟩) h
  | no _ h => exact absurd h not_noA
  | yes _ h1 h2 =>
    obtain ⟨a, b, c, d, rfl, ha⟩ := circA h1.circ
    obtain ⟨a', b', c', d', rfl, ha'⟩ := circA h2.circ
    have m1 := h1.max validA rfl (circA_of (a := 2) (b := 2) (c := 2) (d := 0) (by decide))
    have m2 := h2.max validA rfl (circA_of (a := 5) (b := 4) (c := 4) (d := 1) (by decide))
    have u1 : unit netA.length (Int.toNat 0) (-1) = [-1, 0, 0, 0] := rfl
    have u2 : unit netA.length (Int.toNat 0) 1 = [1, 0, 0, 0] := rfl
    rw [u1, dot4, dot4] at m1
    rw [u2, dot4, dot4] at m2
    have n1 : nth [a, b, c, d] (Int.toNat 0) = a := rfl
    have n2 : nth [a', b', c', d'] (Int.toNat 0) = a' := rfl
    rw [n1, n2]
    omega
theorem netG1 {n e : Int} {x p : List Int} (h : GrR 3 netA [1, 0, 1, 0] n x p e) : n = 9 ∧ e = 0 ∧ x.length = 4 ∧ x[0]? = some 5 ∧ p.length = 3 := by
  cases h with
  | bad h => exact absurd (by decide) h
  | no _ _ h => exact absurd h not_noA
  | yes _ _ h1 =>
    have hp := h1.pts.len
    obtain ⟨a, b, c, d, rfl, ha⟩ := circA h1.circ
    have m1 := h1.max validA rfl (circA_of (a := 5) (b := 4) (c := 4) (d := 1) (by decide))
    rw [dot4, dot4] at m1
    rw [dot4]
    refine ⟨by omega, rfl, rfl, ?_, by omega⟩
    have : a = 5 := by omega
    rw [this]; rfl
theorem netB1 : (if askd 3 netA (row [0, 0, 1, 0] netA.length (-1000) 1000 && row [0, 0, -1] 3 (-10000000) 10000000) = 0 then bnd [0, 0, -1] netA [0, 0, 1, 0] else 0) = 4 := by decide
theorem netB2 : askd 3 netA (row [0, 0, 1, 0] netA.length (-1000) 1000 && row [0, 0, -1] 3 (-10000000) 10000000) = 0 := by decide
theorem netG2 {n e : Int} {x q : List Int} (h : GrR 3 netA [0, 0, 1, 0] n x q e) : e = 0 ∧ q.length = 3 ∧ askd 3 netA (row [0, 0, 1, 0] netA.length (-1000) 1000 && row q 3 (-10000000) 10000000) = 0 ∧ lst (recs (told q netA [0, 0, 1, 0])) = [3] := by
  cases h with
  | bad h => exact absurd (by decide) h
  | no _ _ h => exact absurd h not_noA
  | yes _ hw h1 =>
    have hp := h1.pts
    refine ⟨rfl, by have := hp.len; omega, askd_zero.2 ⟨validA, ?_⟩, ?_⟩
    · rw [Bool.and_eq_true]; exact ⟨row_wts.2 hw, row_pts.2 hp⟩
    · have s1 := h1.other validA rfl (circA_of (a := 4) (b := 4) (c := 4) (d := 0) (by decide)) (by
        obtain ⟨a, b, c, d, rfl, ha⟩ := circA h1.circ
        rw [dot4, dot4]; omega)
      have s2 := h1.other validA rfl (circA_of (a := 5) (b := 4) (c := 4) (d := 1) (by decide)) (by
        obtain ⟨a, b, c, d, rfl, ha⟩ := circA h1.circ
        rw [dot4, dot4]; omega)
      have a0 := s1 0 _ 4 0 rfl rfl rfl
      have a1 := s1 1 _ 4 0 rfl rfl rfl
      have a2 := s1 2 _ 4 1 rfl rfl rfl
      have b3 := s2 3 _ 1 0 rfl rfl rfl
      simp [rst] at a0 a1 a2 b3
      have e0 : ¬ 0 < rst q ⟨0, 1, 2, 5, 1, 2⟩ 0 := by simp only [rst]; simp; omega
      have e0' : ¬ rst q ⟨0, 1, 2, 5, 1, 2⟩ 0 < 0 := by simp only [rst]; simp; omega
      have e1 : 0 < rst q ⟨1, 2, 0, 4, 0, 3⟩ 0 := by simp only [rst]; simp; omega
      have e2 : ¬ 0 < rst q ⟨2, 0, 0, 9, 0, 0⟩ 1 := by simp only [rst]; simp; omega
      have e2' : ¬ rst q ⟨2, 0, 0, 9, 0, 0⟩ 1 < 0 := by simp only [rst]; simp; omega
      have e3 : ¬ 0 < rst q ⟨1, 0, 0, 3, 0, 4⟩ 0 := by simp only [rst]; simp; omega
      have e3' : ¬ rst q ⟨1, 0, 0, 3, 0, 4⟩ 0 < 0 := by simp only [rst]; simp; omega
      have e : told q netA [0, 0, 1, 0] = [(⟨1, 2, 0, 4, 0, 3⟩, true)] := by
        simp only [told, netA, told1_zero e0 e0', told1_pos e1, told1_zero e2 e2', told1_zero e3 e3']; rfl
      rw [e]
      exact lst_eq (by simp) fun x => by simp [recs, rec1]; omega

theorem netN1 : narE 3 netA 1 0 0 7 = 0 := by decide
theorem netN2 : narE 3 netB 3 0 1 8 = 0 := by decide
theorem netNB : nar netA (Int.toNat 1) 0 0 7 = netB := by decide
theorem netNC : nar netB (Int.toNat 3) 0 1 8 = netC := by decide

theorem asc3 {ns : List Int} (h : asc 3 (-1) ns = true) : ns = [] ∨ ns = [0] ∨ ns = [1] ∨ ns = [2] ∨ ns = [0, 1] ∨ ns = [0, 2] ∨ ns = [1, 2] ∨ ns = [0, 1, 2] := by
  match ns with
  | [] => simp
  | [a] =>
    simp [asc] at h
    have : a = 0 ∨ a = 1 ∨ a = 2 := by omega
    rcases this with rfl | rfl | rfl <;> simp
  | [a, b] =>
    simp [asc] at h
    have : (a = 0 ∧ b = 1) ∨ (a = 0 ∧ b = 2) ∨ (a = 1 ∧ b = 2) := by omega
    rcases this with ⟨rfl, rfl⟩ | ⟨rfl, rfl⟩ | ⟨rfl, rfl⟩ <;> simp
  | [a, b, c] =>
    simp [asc] at h
    have : a = 0 ∧ b = 1 ∧ c = 2 := by omega
    obtain ⟨rfl, rfl, rfl⟩ := this
    simp
  | a :: b :: c :: d :: l =>
    simp [asc] at h
    omega
theorem netO {A e : Int} {ns : List Int} {is : Bool} (h : ObsR 3 netC A ns is e) : A = -1 ∧ ns = [0, 2] ∧ is = true ∧ e = 0 := by
  cases h with
  | bad h => exact absurd chkC h
  | yes _ h => exact (hind_no (A := -1) (ns := [0, 2]) validC (by decide) h).elim
  | no _ h =>
    by_cases hA : 0 ≤ A
    · obtain ⟨a, ha, hlt⟩ := hind_bad h hA
      have hm := List.mem_of_getElem? ha
      simp only [netC, List.mem_cons, List.not_mem_nil, or_false] at hm
      rcases hm with rfl | rfl | rfl | rfl <;> simp at hlt
    · obtain ⟨rfl, h1, h2⟩ := hind_cut h hA
      rcases asc3 h1 with rfl | rfl | rfl | rfl | rfl | rfl | rfl | rfl
      · exact absurd h2 (by decide)
      · exact absurd h2 (by decide)
      · exact absurd h2 (by decide)
      · exact absurd h2 (by decide)
      · exact absurd h2 (by decide)
      · exact ⟨rfl, rfl, rfl, rfl⟩
      · exact absurd h2 (by decide)
      · exact absurd h2 (by decide)
theorem netO1 : askd 3 netC (hind 3 netC (-1) [0, 2]) = 0 := by decide
theorem netO2 : orec netC (-1) [0, 2] = [1, 7, 8] := by
  rw [orec, if_neg (by decide)]
  refine lst_eq (by simp) fun x => ?_
  have e : orecs (cutl [0, 2] netC) = [1, 7, 8] := by decide
  rw [e]; simp; omega
end Go.Vk.Flow
