/- The proof engine, part 10: arrays of integers in blocks. Generic over the program. -/
import Derived.Test.YtddapgjjndbejaaVkIter
import Derived.ChangeKeysEq
import Derived.Laws.StructEq
namespace Go.Vk
open Go

/-- A table of integers. -/
def tab (n : Nat) (f : Nat → Int) : List Value := (List.range n).map fun v => .int .i64 (f v)
theorem tab_length (n : Nat) (f : Nat → Int) : (tab n f).length = n := by simp [tab]
theorem tab_get {n i : Nat} {f : Nat → Int} (h : i < n) : (tab n f)[i]? = some (.int .i64 (f i)) := by simp [tab, h]

/-- A table with one number changed. -/
def upf (f : Nat → Int) (i : Nat) (x : Int) : Nat → Int := fun v => if v = i then x else f v
theorem upf_same {f : Nat → Int} {i : Nat} {x : Int} : upf f i x i = x := by simp [upf]
theorem upf_ne {f : Nat → Int} {i v : Nat} {x : Int} (h : v ≠ i) : upf f i x v = f v := by simp [upf, h]

theorem tab_set {n i : Nat} {f : Nat → Int} {x : Int} : (tab n f).set i (.int .i64 x) = tab n (upf f i x) := by
  apply List.ext_getElem?
  intro j
  simp only [tab, upf, List.getElem?_set, List.getElem?_map, List.length_map, List.length_range]
  by_cases hj : j < n
  · by_cases e : i = j
    · subst e; simp [hj]
    · simp [e, hj, Ne.symm e]
  · by_cases e : i = j
    · subst e; simp [hj]
    · simp [e, hj]
theorem tab_congr {n : Nat} {f g : Nat → Int} (h : ∀ v, v < n → f v = g v) : tab n f = tab n g := by
  simp only [tab]
  apply List.map_congr_left
  intro v hv
  rw [h v (List.mem_range.1 hv)]
theorem tab_zero (n : Nat) : tab n (fun _ => 0) = List.replicate n (.int .i64 0) := by
  simp only [tab]
  rw [List.map_const', List.length_range]
theorem tab_one {n : Nat} {f : Nat → Int} : ∀ v ∈ tab n f, v.oneCell' = true := by
  intro v hv
  simp only [tab, List.mem_map] at hv
  obtain ⟨i, _, rfl⟩ := hv
  rfl

/-- a table within a block: before it stand the cells a, behind it the cells c -/
theorem seg_get {a c : List Value} {n o : Nat} {f : Nat → Int} {i : Nat} (ho : a.length = o) (h : i < n) : (a ++ (tab n f ++ c))[o + i * 1]? = some (.int .i64 (f i)) := by
  subst ho
  rw [List.getElem?_append_right (by omega), List.getElem?_append_left (by rw [tab_length]; omega)]
  simpa using tab_get h
theorem seg_set {a c : List Value} {n o : Nat} {f : Nat → Int} {i : Nat} {x : Int} (ho : a.length = o) (h : i < n) : (a ++ (tab n f ++ c)).set (o + i * 1) (.int .i64 x) = a ++ (tab n (upf f i x) ++ c) := by
  subst ho
  rw [List.set_append_right _ _ (by omega), List.set_append_left _ _ (by rw [tab_length]; omega)]
  simp [tab_set]
theorem seg_lt {a c : List Value} {n o : Nat} {f : Nat → Int} {i : Nat} (ho : a.length = o) (h : i < n) : o + i * 1 < (a ++ (tab n f ++ c)).length := by
  simp only [List.length_append, tab_length]; omega
theorem tabs_get {n o : Nat} {f : Nat → Int} {i : Nat} (ho : 0 = o) (h : i < n) : (tab n f)[o + i * 1]? = some (.int .i64 (f i)) := by
  subst ho; simpa using tab_get h
theorem tabs_set {n o : Nat} {f : Nat → Int} {i : Nat} {x : Int} (ho : 0 = o) (_h : i < n) : (tab n f).set (o + i * 1) (.int .i64 x) = tab n (upf f i x) := by
  subst ho; simp [tab_set]
theorem tabs_lt {n o : Nat} {f : Nat → Int} {i : Nat} (ho : 0 = o) (h : i < n) : o + i * 1 < (tab n f).length := by
  subst ho; simp [tab_length, h]
theorem tabs_all {n : Nat} {f : Nat → Int} : ((tab n f).drop 0).take n = tab n f := by
  rw [List.drop_zero, List.take_of_length_le (by rw [tab_length]; exact Nat.le_refl _)]
theorem seg_all {a c : List Value} {n o : Nat} {f : Nat → Int} (ho : a.length = o) : ((a ++ (tab n f ++ c)).drop o).take n = tab n f := by
  subst ho
  rw [List.drop_left, List.take_append_of_le_length (by rw [tab_length]; exact Nat.le_refl _), List.take_of_length_le (by rw [tab_length]; exact Nat.le_refl _)]

section
variable {P : Program} {b : Frame} {cs : List Frame} {fin : Machine → Prop} {n : Nat} {all : Array Oper} {rest : List Oper} {k : List Item} {ρ : Env} {ds : List Deferred} {w w' : World}
  {d : Nat} {ty : TypeId} {pos : String} {af : Array Edge} {g : Option (Nat × Bool)} {T T' : TypeId} {x y : Operand}

/-- A store of one cell, and what the block is then. -/
theorem l_storeq {X : Nat → Prop} {w0 : World} {L : List Rsc} {b' o : Nat} {c c' : List Value} {T0 : TypeId} {v : Value} {d' : Option Nat} (S : Own X w0 w L) (j : Nat) (hj : L[j]? = some (blk b' c T0)) (hg : gOk all n ρ g = true)
    (hx : ev n ρ x = .pointer (some ⟨b', o, none⟩)) (hy : ev n ρ y = v) (h1 : v.oneCell' = true) (hs : ∀ w, (sizeOf T).run P w = .ok 1 w) (ho : o < c.length) (hc : c.set o v = c')
    (h : ∀ w', Own X w0 w' (L.set j (blk b' c' T0)) → Keep (· = b') w w' → RunL P b cs fin n all rest k (updO d' undef ρ) ds w') :
    RunL P b cs fin n all (⟨d', .store T x y, ty, pos, af, g⟩ :: rest) k ρ ds w := by
  subst hc
  exact l_store S j hj hg hx hy h1 hs ho h

variable {E : Operand → Value}

/-- An array that is zero. -/
theorem x_buildz {e : TypeId} {m s : Nat} {z : Value} {zc : List Value} (hz : ∀ w, (zeroValue T).run P w = .ok z w) (hzc : z.cells = zc.toArray) (hu : ∀ w, (underlying T).run P w = .ok (.array m e) w)
    (hs : ∀ w, (sizeOf e).run P w = .ok s w) : X P E (.build T #[]) ty w (.agg zc.toArray) w := by
  refine ⟨nofun, fun _ _ _ _ => ?_⟩
  simp only [execOp, Instr.build, Sem.run_bind, hz, Result.andThen_ok, hzc, hu, hs, List.map_toArray]
  rw [List.map_nil, fill_nil]
  rfl

theorem run_eqItems_tab {e : TypeId} {m : Nat} {f h : Nat → Int} (he : P.underlying e = some (.int .i64)) (hA : ∀ w, (isAgg e).run P w = .ok false w) (dd : Nat) :
    ∀ (is : List Nat), (∀ i ∈ is, i < m) → (Op.eqItems (dd + 1) e 1 (tab m f).toArray (tab m h).toArray is).run P w = .ok (is.all fun i => f i == h i) w := by
  intro is
  induction is with
  | nil => intro _; simp [Op.eqItems]
  | cons i is ih =>
    intro hi
    have h1 := hi i (List.mem_cons_self ..)
    have p1 : ∀ (q : Nat → Int), (part e (tab m q).toArray (i * 1)).run P w = .ok (.int .i64 (q i)) w := by
      intro q
      simp only [part, Sem.run_bind, hA, Result.andThen_ok]
      have : ((tab m q).toArray)[i * 1]? = some (.int .i64 (q i)) := by rw [Nat.mul_one]; simpa using tab_get h1
      rw [this]
      simp
    simp only [Op.eqItems, Sem.run_bind, p1, Result.andThen_ok, run_equalIn_int w dd e .i64 .i64 _ _ he, List.all_cons]
    cases hq : (f i == h i)
    · simp
    · simp only [Bool.not_true, Bool.false_eq_true, if_false, Bool.true_and]
      exact ih fun j hj => hi j (List.mem_cons_of_mem _ hj)

theorem x_eqtab {e : TypeId} {m : Nat} {f h : Nat → Int} {i : TypeInfo} (hu : P.underlying T = some (.array m e)) (hi : P.info? e = some i) (hc : P.cellsOf e = 1) (he : P.underlying e = some (.int .i64)) (hA : ∀ w, (isAgg e).run P w = .ok false w)
    (hm : P.eqGuardType P.depth T = false) (hx : E x = .agg (tab m f).toArray) (hy : E y = .agg (tab m h).toArray) :
    X P E (.binOp .eql T x y T') ty w (.bool ((List.range m).all fun v => f v == h v)) w := by
  refine ⟨nofun, fun _ _ _ _ => ?_⟩
  simp only [execOp, hx, hy, Sem.run_bind, run_eqGuard_agg w .eql T x y _ _ hm, Result.andThen_ok, run_eql_struct, run_equalIn_array w 9999 _ _ hu hi, hc,
    run_eqItems_tab he hA 9998 (List.range m) (fun i h => List.mem_range.1 h), Sem.run_pure]

end
end Go.Vk
