/- Texts joined for a claim: VkIter, VkTab, VkLend, VkSorts, VkCut, VkMarks, VkNest, VkDraw2, VkCopy, VkYoung, VkForget. -/
import Derived.Test.YtddapgjjndbejaaKa
import Derived.RangeFuncLeaves
import Derived.ChangeKeysEq
import Derived.Laws.StructEq
import Derived.Lib.SlicesCompact
import Derived.Lib.RowBridge
import Derived.Sort.Grow
import Derived.Lib.Slices
/- The proof engine, part 9: ranges over functions; marks among the deferred calls. Generic over the program. -/
namespace Go.Vk
open Go

/-! ### blocks that are no cells -/

def noCells : Obj → Bool
  | .cells .. => false
  | _ => true

def obj (b : Nat) (o : Obj) : Rsc := ⟨(· = b), fun w => w.heap[b]? = some o, fun h hb => (h b rfl).trans hb⟩

def put (w : World) (b : Nat) (o : Obj) : World := { w with heap := w.heap.setIfInBounds b o }

theorem Le.alloc_obj (w : World) (o : Obj) : Le w (w.alloc o) :=
  ⟨rfl, rfl, rfl, by simp, fun b hb _ => heap_alloc_old w _ b hb⟩

theorem put_same {w : World} {b : Nat} {o o' : Obj} (h : w.heap[b]? = some o) : (put w b o').heap[b]? = some o' := by
  have hlt := (Array.getElem?_eq_some_iff.1 h).1
  simp [put, hlt]
theorem put_other {w : World} {b i : Nat} {o : Obj} (h : i ≠ b) : (put w b o).heap[i]? = w.heap[i]? := by
  simp [put, Array.getElem?_setIfInBounds_ne (Ne.symm h)]

theorem Keep.put (w : World) (b : Nat) (o' : Obj) : Keep (· = b) w (put w b o') :=
  ⟨rfl, rfl, rfl, by simp [Vk.put], fun i _ hi => put_other hi⟩

section own
variable {X : Nat → Prop} {w0 w w' : World} {L : List Rsc} {b : Nat} {o o' : Obj}
theorem Own.obj (S : Own X w0 w L) (j : Nat) (hj : L[j]? = some (Vk.obj b o)) : w.heap[b]? = some o := S.ok j _ hj
theorem Own.put (S : Own X w0 w L) (j : Nat) (hj : L[j]? = some (Vk.obj b o)) (o' : Obj) : Own X w0 (Vk.put w b o') (L.set j (Vk.obj b o')) :=
  S.turn j hj (Keep.put w b o') (fun _ _ h => h) (put_same (S.obj j hj)) (fun _ h => .inl h)
theorem Own.allocObj (S : Own X w0 w L) (o : Obj) : Own X w0 (w.alloc o) (L ++ [Vk.obj w.heap.size o]) :=
  S.add (Le.alloc_obj w o) ⟨heap_alloc_new w o, fun b hb => by cases hb; simp⟩
end own

theorem run_getObj {P : Program} {w : World} {b : Nat} {o : Obj} (h : w.heap[b]? = some o) (ho : noCells o = true) : (getObj b).run P w = .ok o w := by
  simp only [getObj, Sem.run, h]
  cases o <;> first | rfl | simp [noCells] at ho
theorem run_setObj {P : Program} {w : World} {b : Nat} {o o' : Obj} (h : w.heap[b]? = some o) (ho : noCells o = true) : (setObj b o').run P w = .ok () (put w b o') := by
  simp only [setObj, Sem.run, h]
  cases o <;> first | rfl | simp [noCells] at ho
theorem run_getLoop {P : Program} {w : World} {l : Nat} {r : Loop} (h : w.heap[l]? = some (.loop r)) : (Instr.getLoop l).run P w = .ok r w := by
  simp only [Instr.getLoop, Sem.run_bind, run_getObj h rfl, Result.andThen_ok]
  rfl

/-- The record of a loop over a function. -/
def lrec (fn n : Nat) (ρ : Env) (ps : Array Tmp) (assign body : Code) (D : Nat) (st : LoopState) (pe : Option Code) : Loop :=
  { state := st, pending := pe, fn, tmps := (mkA n ρ []).tmps, params := ps, assign, body, defers := D }

def mark (D : Nat) : Deferred := { target := .collected D, args := #[] }

section
variable {P : Program} {b : Frame} {cs : List Frame} {fin : Machine → Prop} {n : Nat} {k : List Item} {ρ : Env} {ds : List Deferred} {w : World} {X : Nat → Prop} {w0 : World} {L : List Rsc}

/-- A range over a function, outside of every other one. -/
theorem r_rangeFunc {f : Operand} {ps : Array Tmp} {assign body : Code} {gf : FuncId} (first cap : List Value) (S : Own X w0 w L) (hro : b.roundOf = none) (hF : ev n ρ f = .func (.func gf) first.toArray cap.toArray)
    (he : ∀ args w, (callFunc gf args).run P w = .ok (.enter gf args) w)
    (h : ∀ D l w1, Own X w0 w1 (L ++ [obj D (.deferred (some [])), obj l (.loop (lrec b.fn n ρ ps assign body D .ready none))]) → Le w w1 →
      Cl P gf (first ++ .func (.yield l) #[] #[] :: cap).toArray w1 fun _ w2 => Run P b cs fin n (.endRangeFunc l :: k) ρ (mark D :: ds) w2) :
    Run P b cs fin n (.code (.rangeFunc f ps assign body) :: k) ρ ds w := by
  have S1 := S.allocObj (.deferred (some []))
  have S2 := S1.allocObj (.loop (lrec b.fn n ρ ps assign body w.heap.size .ready none))
  rw [List.append_assoc] at S2
  have hle : Le w ((w.alloc (.deferred (some []))).alloc (.loop (lrec b.fn n ρ ps assign body w.heap.size .ready none))) := (Le.alloc_obj w _).trans (Le.alloc_obj _ _)
  have hent : (Instr.enterLoop b.fn (mkA n ρ ds).tmps ps assign body b.roundOf).run P w =
      .ok ((w.alloc (.deferred (some []))).heap.size, [mark w.heap.size]) ((w.alloc (.deferred (some []))).alloc (.loop (lrec b.fn n ρ ps assign body w.heap.size .ready none))) := by
    rw [hro]
    rfl
  have hev : (mkA n ρ ds).eval f = .func (.func gf) first.toArray cap.toArray := by rw [mkA_eval]; exact hF
  obtain ⟨e, w2, fr, ⟨v, rfl, hR⟩, hs, _, hl⟩ := h _ _ _ S2 hle (b.atR (mkA n ρ (mark w.heap.size :: ds)) (.inRangeFunc (w.alloc (.deferred (some []))).heap.size :: k) :: cs)
  obtain ⟨W, hW⟩ : ∃ W, W = (w.alloc (.deferred (some []))).alloc (.loop (lrec b.fn n ρ ps assign body w.heap.size .ready none)) := ⟨_, rfl⟩
  rw [← hW] at hent hs
  have hres : (resolve (mkA n ρ ds).eval (rangeCall f (w.alloc (.deferred (some []))).heap.size) 0).run P W = .ok { target := .fn (.func gf) cap.toArray, args := first.toArray ++ #[.func (.yield (w.alloc (.deferred (some []))).heap.size) #[] #[]] } W := by
    have hc : (#[Operand.const (.func (.yield (w.alloc (.deferred (some []))).heap.size) #[] #[])]).map (mkA n ρ ds).eval = #[.func (.yield (w.alloc (.deferred (some []))).heap.size) #[] #[]] := by simp [Act.eval]
    change (Deferred.ofValue ((mkA n ρ ds).eval f) ((#[Operand.const (.func (.yield (w.alloc (.deferred (some []))).heap.size) #[] #[])]).map (mkA n ρ ds).eval)).run P W = _
    rw [hev, hc]
    simp only [Deferred.ofValue, Sem.run_pure]
  have hinv : (invoke (.fn (.func gf) cap.toArray) (first.toArray ++ #[.func (.yield (w.alloc (.deferred (some []))).heap.size) #[] #[]])).run P W = .ok (.enter gf (first.toArray ++ #[.func (.yield (w.alloc (.deferred (some []))).heap.size) #[] #[]] ++ cap.toArray)) W := by
    simp only [invoke, he]
  have hstep := stepR_rangeFunc (P := P) (b := b) (a := mkA n ρ ds) (k := k) (cs := cs) (w := w) hent hres hinv
  obtain ⟨m, hm, hf⟩ := hR
  refine ⟨m, .head hstep ?_, hf⟩
  have ea : (first.toArray ++ #[.func (.yield (w.alloc (.deferred (some []))).heap.size) #[] #[]] ++ cap.toArray : Array Value) = (first ++ Value.func (.yield (w.alloc (.deferred (some []))).heap.size) #[] #[] :: cap).toArray := by simp
  rw [ea]
  refine Steps.trans hs (.head (step_leave_returned hl) ?_)
  rw [finish_atR_inRangeFunc]
  exact hm

/-- Behind the function that was ranged over. -/
theorem r_endRange {l : Nat} {rec : Loop} (S : Own X w0 w L) (j : Nat) (hj : L[j]? = some (obj l (.loop rec))) (hs : (rec.state == LoopState.busy) = false)
    (h : ∀ w', Own X w0 w' (L.set j (obj l (.loop { rec with state := .exhausted }))) → Keep (· = l) w w' → Run P b cs fin n ((rec.pending.map Item.code).toList ++ k) ρ ds w') :
    Run P b cs fin n (.endRangeFunc l :: k) ρ ds w := by
  have ho := S.obj j hj
  refine (h _ (S.put j hj _) (Keep.put _ _ _)).of_step (stepR_endRangeFunc ?_)
  simp only [Instr.endLoop, Sem.run_bind, run_getLoop ho, Result.andThen_ok]
  rw [hs]
  simp only [Bool.false_eq_true, if_false, Sem.run_bind, run_setObj ho rfl, Result.andThen_ok, Sem.run_pure]

/-! ### rounds -/

def frameR (f l : Nat) : Frame := { (default : Frame) with fn := f, kind := .normal, roundOf := some l }

def finRound (c : Frame) (cs : List Frame) (R : Value → World → Prop) : Machine → Prop := fun m => ∃ v w', m = lone (c.finish v) cs w' ∧ R v w'

/-- What a call of yield does. -/
def Yl (P : Program) (l : Nat) (args : Array Value) (w : World) (R : Value → World → Prop) : Prop :=
  ∃ fn tmps assign body, (Instr.yield l args).run P w = .ok (.round l fn tmps assign body) w ∧ ∀ c cs, ∃ v w', R v w' ∧ Steps P (lone (Frame.round l fn tmps assign body .normal) (c :: cs) w) (lone (c.finish v) cs w')

theorem Yl.mono {l : Nat} {args : Array Value} {R R' : Value → World → Prop} (h : Yl P l args w R) (hr : ∀ v w', R v w' → R' v w') : Yl P l args w R' := by
  obtain ⟨fn, tmps, assign, body, h1, h2⟩ := h
  exact ⟨fn, tmps, assign, body, h1, fun c cs => let ⟨v, w', r, s⟩ := h2 c cs; ⟨v, w', hr _ _ r, s⟩⟩

def setps (ρ : Env) : List (Nat × Value) → Env
  | [] => ρ
  | (t, v) :: l => setps (upd ρ t v) l

theorem foldl_setps : ∀ (l : List (Nat × Value)) (ρ : Env), l.foldl (fun (tmps : Array Value) (p : Nat × Value) => tmps.setIfInBounds p.1 p.2) (mkA n ρ []).tmps = (mkA n (setps ρ l) []).tmps := by
  intro l
  induction l with
  | nil => intro ρ; rfl
  | cons p l ih =>
    intro ρ
    obtain ⟨t, v⟩ := p
    have := congrArg Act.tmps (mkA_put n ρ [] t v)
    simp only [Act.put] at this
    simp only [List.foldl_cons, this, ih]
    rfl

/-- A call of yield: the round. -/
theorem yl_of_run {l fn D : Nat} {ps : List Tmp} {vals : List Value} {assign body : Code} {R : Value → World → Prop} (hl : w.heap[l]? = some (.loop (lrec fn n ρ ps.toArray assign body D .ready none))) (hn : vals.length = ps.length)
    (h : ∀ c cs, Run P (frameR fn l) (c :: cs) (finRound c cs R) n [.code assign, .beginRound, .code body] (setps ρ (ps.zip vals)) [] w) : Yl P l vals.toArray w R := by
  refine ⟨fn, (mkA n (setps ρ (ps.zip vals)) []).tmps, assign, body, ?_, fun c cs => ?_⟩
  · simp only [Instr.yield, Sem.run_bind, run_getLoop hl, Result.andThen_ok]
    have hsz : ¬ (vals.toArray.size ≠ (lrec fn n ρ ps.toArray assign body D .ready none).params.size) := by simp [lrec, hn]
    rw [if_neg hsz]
    simp only [Sem.run_pure, lrec]
    congr 2
    rw [← foldl_setps (ps.zip vals) ρ]
    have : (ps.toArray.zip vals.toArray) = (ps.zip vals).toArray := by simp
    rw [this, List.foldl_toArray]
  · obtain ⟨m, hs, v, w', rfl, hR⟩ := h c cs
    exact ⟨v, w', hR, hs⟩

variable {c : Frame} {R : Value → World → Prop} {fn l : Nat} {rec : Loop}

theorem r_beginRound (S : Own X w0 w L) (j : Nat) (hj : L[j]? = some (obj l (.loop rec))) (hs : rec.state = .ready)
    (h : ∀ w', Own X w0 w' (L.set j (obj l (.loop { rec with state := .busy }))) → Keep (· = l) w w' → Run P (frameR fn l) cs fin n k ρ ds w') :
    Run P (frameR fn l) cs fin n (.beginRound :: k) ρ ds w := by
  have ho := S.obj j hj
  refine (h _ (S.put j hj _) (Keep.put _ _ _)).of_step (stepR_beginRound (l := l) rfl ?_)
  simp only [Instr.beginRound, Sem.run_bind, run_getLoop ho, Result.andThen_ok, run_setObj ho rfl, hs]
  rfl

theorem run_endRound' {jump : Option Code} (ho : w.heap[l]? = some (.loop rec)) :
    (Instr.endRound l jump).run P w = .ok (.bool jump.isNone) (put w l (.loop { rec with state := if jump.isNone then .ready else .done, pending := jump })) := by
  simp only [Instr.endRound, Sem.run_bind, run_getLoop ho, Result.andThen_ok, run_setObj ho rfl, Sem.run_pure]

/-- A round's end: the next element is asked for. -/
theorem r_roundEnd (S : Own X w0 w L) (j : Nat) (hj : L[j]? = some (obj l (.loop rec)))
    (h : ∀ w', Own X w0 w' (L.set j (obj l (.loop { rec with state := .ready, pending := none }))) → R (.bool true) w') :
    Run P (frameR fn l) (c :: cs) (finRound c cs R) n [] ρ ds w := by
  have ho := S.obj j hj
  exact ⟨_, .one (stepR_round_end (l := l) rfl rfl (run_endRound' (jump := none) ho)), _, _, rfl, h _ (S.put j hj _)⟩
/-- A round that returns. -/
theorem r_roundRet (S : Own X w0 w L) (j : Nat) (hj : L[j]? = some (obj l (.loop rec)))
    (h : ∀ w', Own X w0 w' (L.set j (obj l (.loop { rec with state := .done, pending := some .ret }))) → R (.bool false) w') :
    Run P (frameR fn l) (c :: cs) (finRound c cs R) n (.code .ret :: k) ρ ds w := by
  have ho := S.obj j hj
  exact ⟨_, .one (stepR_round_ret (l := l) rfl rfl (run_endRound' (jump := some .ret) ho)), _, _, rfl, h _ (S.put j hj _)⟩
/-- A round that breaks out of the loop. -/
theorem r_roundExit {id : Nat} (S : Own X w0 w L) (j : Nat) (hj : L[j]? = some (obj l (.loop rec))) (hx : exitTo id k = none)
    (h : ∀ w', Own X w0 w' (L.set j (obj l (.loop { rec with state := .done, pending := some (.exit id) }))) → R (.bool false) w') :
    Run P (frameR fn l) (c :: cs) (finRound c cs R) n (.code (.exit id) :: k) ρ ds w := by
  have ho := S.obj j hj
  exact ⟨_, .one (stepR_round_exit (l := l) rfl rfl hx (run_endRound' (jump := some (.exit id)) ho)), _, _, rfl, h _ (S.put j hj _)⟩

/-- A call of yield. -/
theorem l_yield {all : Array Oper} {rest : List Oper} {d' : Option Nat} {ty : TypeId} {pos : String} {af : Array Edge} {g : Option (Nat × Bool)} {F : Operand} {as : List Operand} {ts : Array TypeId} (vals : List Value)
    (hg : gOk all n ρ g = true) (hF : ev n ρ F = .func (.yield l) #[] #[]) (ha : as.map (ev n ρ) = vals) (hy : Yl P l vals.toArray w R)
    (h : ∀ v w', R v w' → RunL P b cs fin n all rest k (updO d' v ρ) ds w') :
    RunL P b cs fin n all (⟨d', .call ⟨.value F, as.toArray, ts⟩, ty, pos, af, g⟩ :: rest) k ρ ds w := by
  intro is his
  obtain ⟨i, is', rfl, ho, his'⟩ := is_cons his
  obtain ⟨fn', tmps, assign, body, hyr, hrun⟩ := hy
  obtain ⟨v, w', hR, hs⟩ := hrun (b.atR (mkA n ρ ds) (.inRegion all (i :: is') :: k)) cs
  have hr : (execOp (ev n ρ) ⟨d', .call ⟨.value F, as.toArray, ts⟩, ty, pos, af, g⟩).run P w = .ok (.round l fn' tmps assign body) w := by
    simp only [execOp, resolve, hF, Deferred.ofValue, Sem.run_bind, Sem.run_pure, Result.andThen_ok, invoke, List.map_toArray, ha]
    simpa using hyr
  have hent : step P (lone (b.atR (mkA n ρ ds) (.inRegion all (i :: is') :: k)) cs w) = .next (lone (Frame.round l fn' tmps assign body .normal) (b.atR (mkA n ρ ds) (.inRegion all (i :: is') :: k) :: cs) w) := by
    refine step_lone_go ?_
    rw [stepGR_op ho (by rw [wanted_gOk]; exact hg), Oper.semAt_eq _ _ _ (fun _ hc => by cases hc), mkA_eval]
    simp [stepG.apply, hr, Frame.atR]
  obtain ⟨m, hm, hf⟩ := h v w' hR is' his'
  refine ⟨m, .head hent (Steps.trans hs ?_), hf⟩
  rw [finish_mkA ho]
  exact hm
end

/-! ### the way out of a function -/

/-- The frame is on its way out. -/
def Leave (P : Program) (b : Frame) (cs : List Frame) (fin : Machine → Prop) (n : Nat) (k : List Item) (ρ : Env) (ds : List Deferred) (w : World) : Prop :=
  ∃ m, Steps P (lone { b.atR (mkA n ρ ds) k with mode := .returning } cs w) m ∧ fin m

section
variable {P : Program} {b : Frame} {cs : List Frame} {fin : Machine → Prop} {n : Nat} {k : List Item} {ρ : Env} {ds : List Deferred} {w : World} {X : Nat → Prop} {w0 : World} {L : List Rsc} {f : FuncId} {R : Value → World → Prop}

theorem r_retL (hb : b.roundOf = none) (h : Leave P b cs fin n (.code .ret :: k) ρ ds w) : Run P b cs fin n (.code .ret :: k) ρ ds w :=
  let ⟨m, h1, h2⟩ := h; ⟨m, .head (stepR_ret hb) h1, h2⟩
theorem r_endL (hb : b.roundOf = none) (h : Leave P b cs fin n [] ρ ds w) : Run P b cs fin n [] ρ ds w :=
  let ⟨m, h1, h2⟩ := h; ⟨m, .head (stepR_end hb) h1, h2⟩

theorem leave_done {F : Func} {rs : List ResultVar} (vs : List Value) (hf : P.funcs[f]? = some F) (hr : F.results = rs.toArray) (hv : Res P n ρ w rs vs) (hR : R (packed vs) w) :
    Leave P (frameOf f) cs (finRet P f cs R) n k ρ [] w :=
  ⟨_, .refl _ _, _, w, _, rfl, hR, rfl, rfl, rfl, rfl, F, hf, results_run (ds := []) hr hv⟩

/-- A mark: no call was deferred in the rounds. -/
theorem leave_mark {D : Nat} (S : Own X w0 w L) (j : Nat) (hj : L[j]? = some (obj D (.deferred (some []))))
    (h : ∀ w', Own X w0 w' (L.set j (obj D (.deferred none))) → Keep (· = D) w w' → Leave P b cs fin n k ρ ds w') :
    Leave P b cs fin n k ρ (mark D :: ds) w := by
  have ho := S.obj j hj
  obtain ⟨m, h1, h2⟩ := h _ (S.put j hj _) (Keep.put _ _ _)
  refine ⟨m, .head (step_collected (d := mark D) (r := D) (ds := ds) (calls := []) (w' := put w D (.deferred none)) (by simp) rfl rfl ?_) h1, h2⟩
  simp only [Instr.takeDeferred, Sem.run_bind, run_getObj ho rfl, Result.andThen_ok, run_setObj ho rfl, Sem.run_pure]
end
end Go.Vk

/- The proof engine, part 10: arrays of integers in blocks. Generic over the program. -/
namespace Go.Vk
open Go

/-- A table of integers. -/
def tab (n : Nat) (f : Nat → Int) : List Value := (List.range n).map fun v => .int .i64 (f v)
theorem tab_length (n : Nat) (f : Nat → Int) : (tab n f).length = n := by simp [tab]
theorem tab_get {n i : Nat} {f : Nat → Int} (h : i < n) : (tab n f)[i]? = some (.int .i64 (f i)) := by simp [tab, h]

/-- A table with one number changed. -/
def upf (f : Nat → Int) (i : Nat) (x : Int) : Nat → Int := fun v => if v = i then x else f v
theorem upf_same {f : Nat → Int} {i : Nat} {x : Int} : upf f i x i = x := by simp [upf]
theorem upf_ne {f : Nat → Int} {i v : Nat} {x : Int} (h : v ≠ i) : upf f i x v = f v := by simp [upf, h]

theorem tab_set {n i : Nat} {f : Nat → Int} {x : Int} : (tab n f).set i (.int .i64 x) = tab n (upf f i x) := by
  apply List.ext_getElem?
  intro j
  simp only [tab, upf, List.getElem?_set, List.getElem?_map, List.length_map, List.length_range]
  by_cases hj : j < n
  · by_cases e : i = j
    · subst e; simp [hj]
    · simp [e, hj, Ne.symm e]
  · by_cases e : i = j
    · subst e; simp [hj]
    · simp [e, hj]
theorem tab_congr {n : Nat} {f g : Nat → Int} (h : ∀ v, v < n → f v = g v) : tab n f = tab n g := by
  simp only [tab]
  apply List.map_congr_left
  intro v hv
  rw [h v (List.mem_range.1 hv)]
theorem tab_zero (n : Nat) : tab n (fun _ => 0) = List.replicate n (.int .i64 0) := by
  simp only [tab]
  rw [List.map_const', List.length_range]
theorem tab_one {n : Nat} {f : Nat → Int} : ∀ v ∈ tab n f, v.oneCell' = true := by
  intro v hv
  simp only [tab, List.mem_map] at hv
  obtain ⟨i, _, rfl⟩ := hv
  rfl

/-- a table within a block: before it stand the cells a, behind it the cells c -/
theorem seg_get {a c : List Value} {n o : Nat} {f : Nat → Int} {i : Nat} (ho : a.length = o) (h : i < n) : (a ++ (tab n f ++ c))[o + i * 1]? = some (.int .i64 (f i)) := by
  subst ho
  rw [List.getElem?_append_right (by omega), List.getElem?_append_left (by rw [tab_length]; omega)]
  simpa using tab_get h
theorem seg_set {a c : List Value} {n o : Nat} {f : Nat → Int} {i : Nat} {x : Int} (ho : a.length = o) (h : i < n) : (a ++ (tab n f ++ c)).set (o + i * 1) (.int .i64 x) = a ++ (tab n (upf f i x) ++ c) := by
  subst ho
  rw [List.set_append_right _ _ (by omega), List.set_append_left _ _ (by rw [tab_length]; omega)]
  simp [tab_set]
theorem seg_lt {a c : List Value} {n o : Nat} {f : Nat → Int} {i : Nat} (ho : a.length = o) (h : i < n) : o + i * 1 < (a ++ (tab n f ++ c)).length := by
  simp only [List.length_append, tab_length]; omega
theorem tabs_get {n o : Nat} {f : Nat → Int} {i : Nat} (ho : 0 = o) (h : i < n) : (tab n f)[o + i * 1]? = some (.int .i64 (f i)) := by
  subst ho; simpa using tab_get h
theorem tabs_set {n o : Nat} {f : Nat → Int} {i : Nat} {x : Int} (ho : 0 = o) (_h : i < n) : (tab n f).set (o + i * 1) (.int .i64 x) = tab n (upf f i x) := by
  subst ho; simp [tab_set]
theorem tabs_lt {n o : Nat} {f : Nat → Int} {i : Nat} (ho : 0 = o) (h : i < n) : o + i * 1 < (tab n f).length := by
  subst ho; simp [tab_length, h]
theorem tabs_all {n : Nat} {f : Nat → Int} : ((tab n f).drop 0).take n = tab n f := by
  rw [List.drop_zero, List.take_of_length_le (by rw [tab_length]; exact Nat.le_refl _)]
theorem seg_all {a c : List Value} {n o : Nat} {f : Nat → Int} (ho : a.length = o) : ((a ++ (tab n f ++ c)).drop o).take n = tab n f := by
  subst ho
  rw [List.drop_left, List.take_append_of_le_length (by rw [tab_length]; exact Nat.le_refl _), List.take_of_length_le (by rw [tab_length]; exact Nat.le_refl _)]

section
variable {P : Program} {b : Frame} {cs : List Frame} {fin : Machine → Prop} {n : Nat} {all : Array Oper} {rest : List Oper} {k : List Item} {ρ : Env} {ds : List Deferred} {w w' : World}
  {d : Nat} {ty : TypeId} {pos : String} {af : Array Edge} {g : Option (Nat × Bool)} {T T' : TypeId} {x y : Operand}

/-- A store of one cell, and what the block is then. -/
theorem l_storeq {X : Nat → Prop} {w0 : World} {L : List Rsc} {b' o : Nat} {c c' : List Value} {T0 : TypeId} {v : Value} {d' : Option Nat} (S : Own X w0 w L) (j : Nat) (hj : L[j]? = some (blk b' c T0)) (hg : gOk all n ρ g = true)
    (hx : ev n ρ x = .pointer (some ⟨b', o, none⟩)) (hy : ev n ρ y = v) (h1 : v.oneCell' = true) (hs : ∀ w, (sizeOf T).run P w = .ok 1 w) (ho : o < c.length) (hc : c.set o v = c')
    (h : ∀ w', Own X w0 w' (L.set j (blk b' c' T0)) → Keep (· = b') w w' → RunL P b cs fin n all rest k (updO d' undef ρ) ds w') :
    RunL P b cs fin n all (⟨d', .store T x y, ty, pos, af, g⟩ :: rest) k ρ ds w := by
  subst hc
  exact l_store S j hj hg hx hy h1 hs ho h

variable {E : Operand → Value}

/-- An array that is zero. -/
theorem x_buildz {e : TypeId} {m s : Nat} {z : Value} {zc : List Value} (hz : ∀ w, (zeroValue T).run P w = .ok z w) (hzc : z.cells = zc.toArray) (hu : ∀ w, (underlying T).run P w = .ok (.array m e) w)
    (hs : ∀ w, (sizeOf e).run P w = .ok s w) : X P E (.build T #[]) ty w (.agg zc.toArray) w := by
  refine ⟨nofun, fun _ _ _ _ => ?_⟩
  simp only [execOp, Instr.build, Sem.run_bind, hz, Result.andThen_ok, hzc, hu, hs, List.map_toArray]
  rw [List.map_nil, fill_nil]
  rfl

theorem run_eqItems_tab {e : TypeId} {m : Nat} {f h : Nat → Int} (he : P.underlying e = some (.int .i64)) (hA : ∀ w, (isAgg e).run P w = .ok false w) (dd : Nat) :
    ∀ (is : List Nat), (∀ i ∈ is, i < m) → (Op.eqItems (dd + 1) e 1 (tab m f).toArray (tab m h).toArray is).run P w = .ok (is.all fun i => f i == h i) w := by
  intro is
  induction is with
  | nil => intro _; simp [Op.eqItems]
  | cons i is ih =>
    intro hi
    have h1 := hi i (List.mem_cons_self ..)
    have p1 : ∀ (q : Nat → Int), (part e (tab m q).toArray (i * 1)).run P w = .ok (.int .i64 (q i)) w := by
      intro q
      simp only [part, Sem.run_bind, hA, Result.andThen_ok]
      have : ((tab m q).toArray)[i * 1]? = some (.int .i64 (q i)) := by rw [Nat.mul_one]; simpa using tab_get h1
      rw [this]
      simp
    simp only [Op.eqItems, Sem.run_bind, p1, Result.andThen_ok, run_equalIn_int w dd e .i64 .i64 _ _ he, List.all_cons]
    cases hq : (f i == h i)
    · simp
    · simp only [Bool.not_true, Bool.false_eq_true, if_false, Bool.true_and]
      exact ih fun j hj => hi j (List.mem_cons_of_mem _ hj)

theorem x_eqtab {e : TypeId} {m : Nat} {f h : Nat → Int} {i : TypeInfo} (hu : P.underlying T = some (.array m e)) (hi : P.info? e = some i) (hc : P.cellsOf e = 1) (he : P.underlying e = some (.int .i64)) (hA : ∀ w, (isAgg e).run P w = .ok false w)
    (hm : P.eqGuardType P.depth T = false) (hx : E x = .agg (tab m f).toArray) (hy : E y = .agg (tab m h).toArray) :
    X P E (.binOp .eql T x y T') ty w (.bool ((List.range m).all fun v => f v == h v)) w := by
  refine ⟨nofun, fun _ _ _ _ => ?_⟩
  simp only [execOp, hx, hy, Sem.run_bind, run_eqGuard_agg w .eql T x y _ _ hm, Result.andThen_ok, run_eql_struct, run_equalIn_array w 9999 _ _ hu hi, hc,
    run_eqItems_tab he hA 9998 (List.range m) (fun i h => List.mem_range.1 h), Sem.run_pure]

end
end Go.Vk

/- The proof engine, part 11: what is lent to a call and comes back changed. Generic over the program. -/
namespace Go.Vk
open Go

/-- Nothing. -/
def nilR : Rsc := ⟨nob, fun _ => True, fun _ h => h⟩

/-- Some resources as one. -/
def pack (L : List Rsc) : Rsc where
  fp := fun b => ∃ r ∈ L, r.fp b
  ok := fun w => (∀ r ∈ L, r.ok w) ∧ ∀ (j k : Nat) (r s : Rsc), L[j]? = some r → L[k]? = some s → j ≠ k → ∀ b, r.fp b → ¬ s.fp b
  st := fun h h' => ⟨fun r hr => r.st (fun b hb => h b ⟨r, hr, hb⟩) (h'.1 r hr), h'.2⟩

section
variable {X : Nat → Prop} {w0 w w' w1 : World} {L A M : List Rsc} {r r' : Rsc}

theorem Own.old (S : Own X w w1 L) (h0 : Le w0 w) (hX : ∀ b, X b → w0.heap.size ≤ b) : Le w0 w1 := by
  refine ⟨S.keep.os.trans h0.os, S.keep.tape.trans h0.tape, S.keep.output.trans h0.output, Nat.le_trans h0.size S.keep.size, fun b hb _ => ?_⟩
  exact (S.keep.block b (Nat.lt_of_lt_of_le hb h0.size) fun hx => by have := hX b hx; omega).trans (h0.block b hb id)

/-- Resource k is lent. -/
theorem Own.lend (S : Own X w0 w L) (k : Nat) (hk : L[k]? = some r) : Own r.fp w w [r] := Own.lent (S.ok k r hk) fun b hb => (S.bd k r hk b hb).1
/-- It comes back. -/
theorem Own.back (S : Own X w0 w L) (k : Nat) (hk : L[k]? = some r) (h : Own r.fp w w' [r']) : Own X w0 w' (L.set k r') :=
  S.turn k hk h.keep (fun _ _ h => h) (h.ok 0 r' rfl) fun b hb => by
    have := h.bd 0 r' rfl b hb
    rcases this with ⟨h1, h2 | h2⟩
    · exact .inr ⟨h2, h1⟩
    · exact .inl h2

theorem Own.sub (h : Own nob w w' L) : Own X w w' L :=
  ⟨.of_le h.keep, h.ok, fun k r hr b hb => ⟨(h.bd k r hr b hb).1, .inl ((h.bd k r hr b hb).2.resolve_right id)⟩, h.dj⟩

theorem Own.pack (S : Own X w0 w (A ++ L)) : Own X w0 w (A ++ [Vk.pack L]) := by
  have hL : ∀ r ∈ L, ∃ k : Nat, (A ++ L)[A.length + k]? = some r := by
    intro r hr
    obtain ⟨k, hk⟩ := List.getElem?_of_mem hr
    exact ⟨k, by rw [List.getElem?_append_right (by omega)]; simpa using hk⟩
  have hA : ∀ {k : Nat} {r : Rsc}, k < A.length → A[k]? = some r → (A ++ L)[k]? = some r := by
    intro k r hk hr; rw [List.getElem?_append_left hk]; exact hr
  refine ⟨S.keep, fun k s hs => ?_, fun k s hs b hb => ?_, fun j k s t hs ht hne b hb hb' => ?_⟩
  · rcases getElem?_snoc hs with ⟨hk, hs⟩ | ⟨_, rfl⟩
    · exact S.ok k s (hA hk hs)
    · refine ⟨fun r hr => ?_, fun j k r s hr hs hne => ?_⟩
      · obtain ⟨k, hk⟩ := hL r hr; exact S.ok _ r hk
      · refine S.dj (A.length + j) (A.length + k) r s ?_ ?_ (by omega)
        · rw [List.getElem?_append_right (by omega)]; simpa using hr
        · rw [List.getElem?_append_right (by omega)]; simpa using hs
  · rcases getElem?_snoc hs with ⟨hk, hs⟩ | ⟨_, rfl⟩
    · exact S.bd k s (hA hk hs) b hb
    · obtain ⟨r, hr, hb⟩ := hb
      obtain ⟨k, hk⟩ := hL r hr
      exact S.bd _ r hk b hb
  · rcases getElem?_snoc hs with ⟨hj, hs⟩ | ⟨ej, rfl⟩
    · rcases getElem?_snoc ht with ⟨hk, ht⟩ | ⟨ek, rfl⟩
      · exact S.dj j k s t (hA hj hs) (hA hk ht) hne b hb hb'
      · obtain ⟨r, hr, hb'⟩ := hb'
        obtain ⟨k', hk'⟩ := hL r hr
        exact S.dj j (A.length + k') s r (hA hj hs) hk' (by omega) b hb hb'
    · rcases getElem?_snoc ht with ⟨hk, ht⟩ | ⟨ek, rfl⟩
      · obtain ⟨r, hr, hb⟩ := hb
        obtain ⟨k', hk'⟩ := hL r hr
        exact S.dj (A.length + k') k r t hk' (hA hk ht) (by omega) b hb hb'
      · omega

theorem Own.unpack (S : Own X w0 w (A ++ [Vk.pack L])) : Own X w0 w (A ++ L) := by
  have hp : (A ++ [Vk.pack L])[A.length]? = some (Vk.pack L) := by simp
  have hA : ∀ {k : Nat} {r : Rsc}, k < A.length → (A ++ L)[k]? = some r → (A ++ [Vk.pack L])[k]? = some r := by
    intro k r hk hr; rw [List.getElem?_append_left hk] at hr ⊢; exact hr
  have hL : ∀ {k : Nat} {r : Rsc}, ¬ k < A.length → (A ++ L)[k]? = some r → L[k - A.length]? = some r := by
    intro k r hk hr; rwa [List.getElem?_append_right (by omega)] at hr
  refine ⟨S.keep, fun k s hs => ?_, fun k s hs b hb => ?_, fun j k s t hs ht hne b hb hb' => ?_⟩
  · by_cases hk : k < A.length
    · exact S.ok k s (hA hk hs)
    · exact (S.ok _ _ hp).1 s (List.mem_of_getElem? (hL hk hs))
  · by_cases hk : k < A.length
    · exact S.bd k s (hA hk hs) b hb
    · exact S.bd _ _ hp b ⟨s, List.mem_of_getElem? (hL hk hs), hb⟩
  · by_cases hj : j < A.length <;> by_cases hk : k < A.length
    · exact S.dj j k s t (hA hj hs) (hA hk ht) hne b hb hb'
    · exact S.dj j A.length s _ (hA hj hs) hp (by omega) b hb ⟨t, List.mem_of_getElem? (hL hk ht), hb'⟩
    · exact S.dj A.length k _ t hp (hA hk ht) (by omega) b ⟨s, List.mem_of_getElem? (hL hj hs), hb⟩ hb'
    · exact (S.ok _ _ hp).2 _ _ s t (hL hj hs) (hL hk ht) (by omega) b hb hb'

theorem Own.open (S : Own X w0 w [Vk.pack L]) : Own X w0 w L := S.unpack (A := [])
theorem Own.close (S : Own X w0 w L) : Own X w0 w [Vk.pack L] := S.pack (A := [])
theorem Own.nilR (w : World) : Own nilR.fp w w [Vk.nilR] := Own.lent trivial fun _ h => h.elim

/-- A call that kept all old memory may have been lent anything. -/
theorem Own.lent_le (S : Own r.fp w w [r]) (h : Le w w') : Own r.fp w w' [r] := S.step h

end
end Go.Vk

namespace Go.Vk
/-- A list that is written from its head on: behind place i it is still z. -/
def pre {α : Type} (l : List α) (z : α) (i : Nat) : List α := l.take i ++ List.replicate (l.length - i) z
section
variable {α : Type} {l : List α} {z a : α} {i : Nat}
theorem pre_zero : pre l z 0 = List.replicate l.length z := by simp [pre]
theorem pre_full : pre l z l.length = l := by simp [pre]
theorem pre_length (h : i ≤ l.length) : (pre l z i).length = l.length := by simp only [pre, List.length_append, List.length_take, List.length_replicate]; omega
theorem pre_get (h : i < l.length) : (pre l z i)[i]? = some z := by
  have h1 : (l.take i).length = i := by rw [List.length_take]; omega
  rw [pre, List.getElem?_append_right (by omega), h1, List.getElem?_replicate, if_pos (by omega)]
theorem pre_last (h : l[i]? = some a) : (pre l z (i + 1))[i]? = some a := by
  obtain ⟨hi, _⟩ := List.getElem?_eq_some_iff.1 h
  rw [pre, List.getElem?_append_left (by rw [List.length_take]; omega), List.getElem?_take, if_pos (by omega)]; exact h
theorem pre_step (h : l[i]? = some a) : (pre l z i).set i a = pre l z (i + 1) := by
  obtain ⟨hi, rfl⟩ := List.getElem?_eq_some_iff.1 h
  have h1 : (l.take i).length = i := by rw [List.length_take]; omega
  obtain ⟨m, hm⟩ : ∃ m, l.length - i = m + 1 := ⟨l.length - i - 1, by omega⟩
  have hm' : l.length - (i + 1) = m := by omega
  rw [pre, pre, List.set_append_right i l[i] (by omega), h1, Nat.sub_self, hm, hm', List.replicate_succ, List.set_cons_zero, List.take_succ_eq_append_getElem hi, List.append_assoc]
  rfl
end
end Go.Vk

namespace Go.Vk
open Go
section
variable {P : Program} {b : Frame} {cs : List Frame} {fin : Machine → Prop} {n : Nat} {all : Array Oper} {rest : List Oper} {k : List Item} {ρ : Env} {ds : List Deferred} {w : World} {X : Nat → Prop} {w0 : World} {L : List Rsc}
  {ty : TypeId} {pos : String} {af : Array Edge} {g : Option (Nat × Bool)} {T : TypeId} {x y : Operand} {d' : Option Nat} {α : Type} {E : Elt α} {v : Value} {b' o f i : Nat} {l : List α} {a a' : α}

/-- A store of one cell into an element of a slice of the call's own. -/
theorem l_storev1 {u : Value} (S : Own X w0 w L) (j : Nat) (hj : L[j]? = some (vec E v l)) (hg : gOk all n ρ g = true) (hat : At E v i ⟨b', o, none⟩)
    (hx : ev n ρ x = .pointer (some ⟨b', o + f, none⟩)) (hy : ev n ρ y = u) (h1 : u.oneCell' = true) (hs : ∀ w, (sizeOf T).run P w = .ok 1 w) (ha : l[i]? = some a) (hf : f + 1 ≤ E.sz)
    (he : splice (E.enc a) f [u] = E.enc a') (h : ∀ w', Own X w0 w' (L.set j (vec E v (l.set i a'))) → Keep (vec E v l).fp w w' → RunL P b cs fin n all rest k (updO d' undef ρ) ds w') :
    RunL P b cs fin n all (⟨d', .store T x y, ty, pos, af, g⟩ :: rest) k ρ ds w := by
  have hcs : u.cells = #[u] := by cases u <;> first | rfl | simp [Value.oneCell'] at h1
  exact l_storev S j hj hg hat hx (vs := [u]) (by rw [hy, hcs]) hs (by simpa using h1) ha hf he h
theorem l_storevi {z : Int} (S : Own X w0 w L) (j : Nat) (hj : L[j]? = some (vec E v l)) (hg : gOk all n ρ g = true) (hat : At E v i ⟨b', o, none⟩)
    (hx : ev n ρ x = .pointer (some ⟨b', o + f, none⟩)) (hy : ev n ρ y = .int .i64 z) (hs : ∀ w, (sizeOf T).run P w = .ok 1 w) (ha : l[i]? = some a) (hf : f + 1 ≤ E.sz)
    (he : splice (E.enc a) f [.int .i64 z] = E.enc a') (h : ∀ w', Own X w0 w' (L.set j (vec E v (l.set i a'))) → Keep (vec E v l).fp w w' → RunL P b cs fin n all rest k (updO d' undef ρ) ds w') :
    RunL P b cs fin n all (⟨d', .store T x y, ty, pos, af, g⟩ :: rest) k ρ ds w := l_storev1 S j hj hg hat hx hy rfl hs ha hf he h
theorem l_storevb {t : Bool} (S : Own X w0 w L) (j : Nat) (hj : L[j]? = some (vec E v l)) (hg : gOk all n ρ g = true) (hat : At E v i ⟨b', o, none⟩)
    (hx : ev n ρ x = .pointer (some ⟨b', o + f, none⟩)) (hy : ev n ρ y = .bool t) (hs : ∀ w, (sizeOf T).run P w = .ok 1 w) (ha : l[i]? = some a) (hf : f + 1 ≤ E.sz)
    (he : splice (E.enc a) f [.bool t] = E.enc a') (h : ∀ w', Own X w0 w' (L.set j (vec E v (l.set i a'))) → Keep (vec E v l).fp w w' → RunL P b cs fin n all rest k (updO d' undef ρ) ds w') :
    RunL P b cs fin n all (⟨d', .store T x y, ty, pos, af, g⟩ :: rest) k ρ ds w := l_storev1 S j hj hg hat hx hy rfl hs ha hf he h
/-- A store of a whole element. -/
theorem l_storeva {c : List Value} (S : Own X w0 w L) (j : Nat) (hj : L[j]? = some (vec E v l)) (hg : gOk all n ρ g = true) (hat : At E v i ⟨b', o, none⟩)
    (hx : ev n ρ x = .pointer (some ⟨b', o, none⟩)) (hy : ev n ρ y = .agg c.toArray) (hs : ∀ w, (sizeOf T).run P w = .ok E.sz w) (ha : l[i]? = some a) (he : c = E.enc a')
    (h : ∀ w', Own X w0 w' (L.set j (vec E v (l.set i a'))) → Keep (vec E v l).fp w w' → RunL P b cs fin n all rest k (updO d' undef ρ) ds w') :
    RunL P b cs fin n all (⟨d', .store T x y, ty, pos, af, g⟩ :: rest) k ρ ds w := by
  subst he
  exact l_storev (f := 0) S j hj hg hat hx (vs := E.enc a') (by rw [hy]; rfl) (by rw [E.len]; exact hs) (E.one a') ha (by rw [E.len]; omega) (splice_all (by rw [E.len, E.len])) h
end
theorem ones_nil : ∀ v ∈ ([] : List Value), v.oneCell' = true := fun _ h => by cases h
theorem ones_cons {x : Value} {l : List Value} (h : x.oneCell' = true) (hl : ∀ v ∈ l, v.oneCell' = true) : ∀ v ∈ x :: l, v.oneCell' = true := fun v hv => by
  rcases List.mem_cons.1 hv with rfl | hv
  · exact h
  · exact hl v hv
end Go.Vk

/- The proof engine, part 12: the library's Sort, Compact and Max at slices of the call's own. Generic over the program. -/
namespace Go.Vk
open Go Go.Sort Go.Lib

theorem flatMap_int (T : TypeId) (l : List Int) : l.flatMap (intE T).enc = l.map (Value.int .i64) := by
  induction l with
  | nil => rfl
  | cons a l ih => simp [intE] at ih ⊢; exact ih

section
variable {w : World} {b : Nat} {c : List Value} {T : TypeId} {l : List Int}

theorem holds_blk (h : Blk w b c T) (hc : c.take l.length = l.map (Value.int .i64)) : Holds (Value.int .i64) w b 0 l.toArray := by
  intro j hj
  have hj' : j < l.length := by simpa using hj
  refine ⟨?_, frozen_at h _ _⟩
  rw [Nat.zero_add]
  refine h.cell ?_
  have h1 : (c.take l.length)[j]? = some (.int .i64 l.toArray[j]!) := by
    rw [hc]
    simp [hj']
  rw [List.getElem?_take, if_pos hj'] at h1
  exact h1

theorem putRow_blk (h : Blk w b c T) (hl : l.length ≤ c.length) : Blk (putRow (Value.int .i64) w b 0 l.toArray) b (l.map (Value.int .i64) ++ c.drop l.length) T := by
  unfold Blk at h ⊢
  unfold putRow mapBlock
  simp only [Array.getElem?_modify, if_true, h, Option.map_some, onCells]
  congr 2
  apply Array.ext_getElem?
  intro k
  simp only [putCells, Array.getElem?_mapIdx, List.getElem?_toArray]
  by_cases hk : k < l.length
  · have hkc : k < c.length := by omega
    rw [List.getElem?_append_left (by simpa using hk)]
    simp [hkc, hk]
  · rw [List.getElem?_append_right (by simp; omega)]
    have : ¬ k < l.toArray.size := by simpa using hk
    have hne : ¬ (0 ≤ k ∧ k < 0 + l.toArray.size) := by simpa using hk
    simp only [hne, if_false, List.length_map, List.getElem?_drop]
    have e : l.length + (k - l.length) = k := by omega
    rw [e]
    cases c[k]? <;> rfl

theorem keep_putRow (w : World) (b : Nat) (d : Array Int) : Keep (· = b) w (putRow (Value.int .i64) w b 0 d) := by
  refine ⟨rfl, rfl, rfl, by simp [putRow, mapBlock], fun k _ hne => ?_⟩
  have hne' : ¬ b = k := fun e => hne e.symm
  simp [putRow, mapBlock, Array.getElem?_modify, hne']
theorem le_ahead (w : World) (n : Nat) : Le w (Sort.ahead w n) := ⟨rfl, rfl, rfl, Nat.le_refl _, fun _ _ _ => rfl⟩
theorem le_grow (w : World) (os : Array Obj) : Le w (grow w os) := ⟨rfl, rfl, rfl, by simp, fun _ h _ => heap_grow_old w os h⟩
end

section
variable {P : Program} {f : FuncId} {T : TypeId} {w : World} {v : Value} {l : List Int}

/-- A slice of integers of one's own: nil, or a block with the numbers at its head. -/
theorem vec_int (h : (vec (intE T) v l).ok w) : (v = .slice none 0 0 ∧ l = []) ∨ ∃ b cap c, v = .slice (some ⟨b, 0, none⟩) l.length cap ∧ l.length ≤ cap ∧ cap ≤ maxLen ∧ c.length = cap ∧ c.take l.length = l.map (Value.int .i64) ∧ Blk w b c T := by
  rcases h with h | ⟨b, cap, c, hv, h1, h2, h3, h4, hb⟩
  · exact .inl h
  · refine .inr ⟨b, cap, c, hv, h1, h2, by simpa [intE] using h3, ?_, hb⟩
    rw [flatMap_int] at h4
    simpa [intE] using h4

theorem vec_of_int {b cap : Nat} {c : List Value} (h1 : l.length ≤ cap) (h2 : cap ≤ maxLen) (h3 : c.length = cap) (h4 : c.take l.length = l.map (Value.int .i64)) (hb : Blk w b c T) : (vec (intE T) (.slice (some ⟨b, 0, none⟩) l.length cap) l).ok w := by
  refine .inr ⟨b, cap, c, rfl, h1, h2, by simpa [intE] using h3, ?_, hb⟩
  rw [flatMap_int]
  simpa [intE] using h4

theorem sort_cl (h : ∀ (blk off cap : Nat) (zs : List Int) (w : World), Holds (Value.int .i64) w blk off zs.toArray → blk < w.heap.size → zs.length < 4611686018427387904 →
      Calls P f #[.slice (some ⟨blk, off, none⟩) zs.length cap] w fun e w' => e = .returned (.tuple #[]) ∧ ∃ n os, w' = grow (putRow (Value.int .i64) (Sort.ahead w n) blk off (zs.mergeSort fun x y => decide (x ≤ y)).toArray) os)
    (hn : ∀ (p : Option Addr) (cap : Nat) (w : World), Calls P f #[.slice p 0 cap] w fun e w' => e = .returned (.tuple #[]) ∧ w' = w)
    (S : Own (vec (intE T) v l).fp w w [vec (intE T) v l]) (hl : l.length < 4611686018427387904) :
    Cl P f #[v] w fun _ w' => Own (vec (intE T) v l).fp w w' [vec (intE T) v (l.mergeSort fun x y => decide (x ≤ y))] := by
  rcases vec_int (S.at 0 rfl) with ⟨rfl, rfl⟩ | ⟨b, cap, c, rfl, h1, h2, h3, h4, hb⟩
  · exact (hn none 0 w).mono fun e w' ⟨he, hw⟩ => ⟨_, he, by subst hw; simpa using S⟩
  · refine (h b 0 cap l w (holds_blk hb h4) hb.lt hl).mono fun e w' ⟨he, n, os, hw⟩ => ⟨_, he, ?_⟩
    subst hw
    have hb1 : Blk (Sort.ahead w n) b c T := hb
    have hlen : (l.mergeSort fun x y => decide (x ≤ y)).length = l.length := List.length_mergeSort ..
    have hb2 := putRow_blk (l := l.mergeSort fun x y => decide (x ≤ y)) hb1 (by rw [hlen, h3]; exact h1)
    have hb3 := Blk.keep (X := nob) hb2 (le_grow _ os) id
    rw [hlen] at hb2 hb3
    have hk : Keep (· = b) w (grow (putRow (Value.int .i64) (Sort.ahead w n) b 0 (l.mergeSort fun x y => decide (x ≤ y)).toArray) os) :=
      ((le_ahead w n).of_le.trans (keep_putRow _ b _)).trans (le_grow _ os).of_le
    have hv := vec_of_int (l := l.mergeSort fun x y => decide (x ≤ y)) (cap := cap) (by omega) h2 (by simp; omega) (by rw [hlen]; exact List.take_left' (by simp [hlen])) hb3
    rw [hlen] at hv
    exact S.turn 0 rfl hk (fun bb _ e => ⟨_, _, by subst e; rfl⟩) hv fun bb hbb => .inl hbb

theorem compact_cl (h : ∀ (blk off cap : Nat) (zs : List Int) (w : World), Holds (Value.int .i64) w blk off zs.toArray → zs.length ≤ 9223372036854775807 → zs.length ≤ cap →
      Calls P f #[.slice (some ⟨blk, off, none⟩) zs.length cap] w fun e w' => e = .returned (.slice (some ⟨blk, off, none⟩) (Lib.compact zs).length cap) ∧ ∃ q, w' = putRow (Value.int .i64) (Sort.ahead w q) blk off (Lib.compact zs ++ List.replicate (zs.length - (Lib.compact zs).length) 0).toArray)
    (hn : ∀ (p : Option Addr) (cap : Nat) (w : World), Calls P f #[.slice p 0 cap] w fun e w' => e = .returned (.slice p 0 cap) ∧ w' = w)
    (S : Own (vec (intE T) v l).fp w w [vec (intE T) v l]) :
    Cl P f #[v] w fun v' w' => Own (vec (intE T) v l).fp w w' [vec (intE T) v' (Lib.compact l)] := by
  rcases vec_int (S.at 0 rfl) with ⟨rfl, rfl⟩ | ⟨b, cap, c, rfl, h1, h2, h3, h4, hb⟩
  · exact (hn none 0 w).mono fun e w' ⟨he, hw⟩ => ⟨_, he, by subst hw; simpa [Lib.compact, compactUpTo] using S⟩
  · have hm : maxLen = 9223372036854775807 := rfl
    refine (h b 0 cap l w (holds_blk hb h4) (by omega) h1).mono fun e w' ⟨he, n, hw⟩ => ⟨_, he, ?_⟩
    subst hw
    have hcl := compact_length_le l
    have hb1 : Blk (Sort.ahead w n) b c T := hb
    have hlen : (Lib.compact l ++ List.replicate (l.length - (Lib.compact l).length) 0).length = l.length := by simp; omega
    have hb2 := putRow_blk (l := Lib.compact l ++ List.replicate (l.length - (Lib.compact l).length) 0) hb1 (by rw [hlen, h3]; exact h1)
    rw [hlen] at hb2
    have hk : Keep (· = b) w (putRow (Value.int .i64) (Sort.ahead w n) b 0 (Lib.compact l ++ List.replicate (l.length - (Lib.compact l).length) 0).toArray) :=
      (le_ahead w n).of_le.trans (keep_putRow _ b _)
    have hv := vec_of_int (l := Lib.compact l) (cap := cap) (by omega) h2 (by simp; omega) (by simp [List.take_left']) hb2
    exact S.turn 0 rfl hk (fun bb _ e => ⟨_, _, by subst e; rfl⟩) hv fun bb ⟨n', cap', e⟩ => .inl ⟨l.length, cap, by cases e; rfl⟩
end

/-! ### what comes out: the numbers, each once, ascending -/

theorem compact_sorted {l : List Int} (hs : l.Pairwise (· ≤ ·)) : (Lib.compact l).Pairwise (· < ·) ∧ ∀ x, x ∈ Lib.compact l ↔ x ∈ l := by
  have key : ∀ m, m ≤ l.length → (compactUpTo l.toArray m).Pairwise (· < ·) ∧ (∀ x, x ∈ compactUpTo l.toArray m ↔ x ∈ l.take m) := by
    intro m
    induction m with
    | zero => intro _; simp [compactUpTo]
    | succ m ih =>
      intro hm
      obtain ⟨h1, h2⟩ := ih (by omega)
      have hml : m < l.length := by omega
      have hgm : l.toArray[m]! = l[m] := by simp [hml]
      have hle : ∀ x ∈ l.take m, x ≤ l[m] := by
        intro x hx
        obtain ⟨j, hj, rfl⟩ := List.mem_iff_getElem.1 hx
        have hj' : j < m := by simp at hj; omega
        rw [List.getElem_take]
        exact List.pairwise_iff_getElem.1 hs j m (by omega) hml hj'
      have htk : l.take (m + 1) = l.take m ++ [l[m]] := List.take_succ_eq_append_getElem hml
      rw [compactUpTo_succ, hgm, htk]
      by_cases hk : keeps l.toArray m = true
      · rw [if_pos hk]
        refine ⟨?_, fun x => by simp only [List.mem_append, h2]⟩
        rw [List.pairwise_append]
        refine ⟨h1, by simp, fun x hx y hy => ?_⟩
        have hy' : y = l[m] := by simpa using hy
        subst hy'
        rcases Int.lt_or_eq_of_le (hle x ((h2 x).1 hx)) with h | h
        · exact h
        · exfalso
          simp only [keeps, decide_eq_true_eq] at hk
          rcases hk with rfl | hk
          · simp at h2; simp [h2] at hx
          · have hm0 : 0 < m := by
              rcases Nat.eq_zero_or_pos m with e | e
              · subst e; simp at h2; simp [h2] at hx
              · exact e
            apply hk
            rw [hgm]
            have hg1 : l.toArray[m - 1]! = l[m - 1]'(by omega) := by
              have : m - 1 < l.length := by omega
              simp [this]
            rw [hg1]
            have hx' := (h2 x).1 hx
            obtain ⟨j, hj, rfl⟩ := List.mem_iff_getElem.1 hx'
            have hj' : j < m := by simp at hj; omega
            rw [List.getElem_take] at h
            have a1 : l[m - 1]'(by omega) ≤ l[m] := List.pairwise_iff_getElem.1 hs (m - 1) m (by omega) hml (by omega)
            have a2 : l[j]'(by omega) ≤ l[m - 1]'(by omega) := by
              rcases Nat.lt_or_ge j (m - 1) with e | e
              · exact List.pairwise_iff_getElem.1 hs j (m - 1) (by omega) (by omega) e
              · have : j = m - 1 := by omega
                subst this; exact Int.le_refl _
            omega
      · rw [if_neg hk]
        refine ⟨by simpa using h1, fun x => ?_⟩
        simp only [List.append_nil, h2, List.mem_append, List.mem_singleton]
        refine ⟨.inl, fun h => h.elim id fun h => ?_⟩
        subst h
        simp only [keeps, decide_eq_true_eq, not_or, Decidable.not_not] at hk
        obtain ⟨hm0, hk⟩ := hk
        rw [hgm] at hk
        have hg1 : l.toArray[m - 1]! = l[m - 1]'(by omega) := by
          have : m - 1 < l.length := by omega
          simp [this]
        rw [hg1] at hk
        rw [hk, List.mem_take_iff_getElem]
        exact ⟨m - 1, by omega, rfl⟩
  have := key l.length (Nat.le_refl _)
  rw [List.take_length] at this
  exact this

theorem sorted_unique : ∀ {l m : List Int}, l.Pairwise (· < ·) → m.Pairwise (· < ·) → (∀ x, x ∈ l ↔ x ∈ m) → l = m := by
  intro l
  induction l with
  | nil => intro m _ _ h; cases m with
    | nil => rfl
    | cons a m => have := (h a).2 (List.mem_cons_self ..); simp at this
  | cons a l ih =>
    intro m hl hm h
    cases m with
    | nil => have := (h a).1 (List.mem_cons_self ..); simp at this
    | cons b m =>
      rw [List.pairwise_cons] at hl hm
      have e : a = b := by
        have h1 := (h a).1 (List.mem_cons_self ..)
        have h2 := (h b).2 (List.mem_cons_self ..)
        rcases List.mem_cons.1 h1 with e | h1
        · exact e
        · rcases List.mem_cons.1 h2 with e | h2
          · exact e.symm
          · have := hl.1 b h2; have := hm.1 a h1; omega
      subst e
      rw [ih hl.2 hm.2 fun x => ?_]
      have := h x
      simp only [List.mem_cons] at this
      constructor
      · intro hx
        rcases this.1 (.inr hx) with e | hx'
        · subst e; have := hl.1 x hx; omega
        · exact hx'
      · intro hx
        rcases this.2 (.inr hx) with e | hx'
        · subst e; have := hm.1 x hx; omega
        · exact hx'

theorem mergeSort_le (l : List Int) : (l.mergeSort fun x y => decide (x ≤ y)).Pairwise (· ≤ ·) := by
  have := List.pairwise_mergeSort (le := fun x y : Int => decide (x ≤ y)) (by intro a b c h1 h2; simp at h1 h2 ⊢; omega) (by intro a b; simp; omega) l
  exact this.imp fun h => by simpa using h
end Go.Vk

/- The proof engine, part 13: slices that are cut, and cleared. Generic over the program. -/
namespace Go.Vk
open Go

section
variable {P : Program} {b : Frame} {cs : List Frame} {fin : Machine → Prop} {n : Nat} {all : Array Oper} {rest : List Oper} {k : List Item} {ρ : Env} {ds : List Deferred} {w : World} {X : Nat → Prop} {w0 : World} {L : List Rsc}
  {d : Nat} {d' : Option Nat} {ty : TypeId} {pos : String} {af : Array Edge} {g : Option (Nat × Bool)} {T : TypeId} {x y : Operand} {α : Type} {E : Elt α} {v v' : Value} {l : List α}

/-- 's[lo:hi]', the value. -/
theorem x_cut {ev : Operand → Value} {lo hi : Option Operand} {p q : Int} {a : Option Addr} {len cap sz : Nat} {e : TypeId} (hx : ev x = .slice a len cap) (hu : ∀ w, (underlying T).run P w = .ok (.slice e) w) (hs : ∀ w, (sizeOf e).run P w = .ok sz w)
    (hlo : (lo.map ev).getD (.int .i64 0) = .int .i64 p) (hhi : (hi.map ev).getD (.int .i64 len) = .int .i64 q) (hb : 0 ≤ p ∧ p ≤ q ∧ q ≤ len) (hc : len ≤ cap) :
    Vk.X P ev (.slice T x lo hi none) ty w (.slice (if cap = p.toNat then a else a.map (·.add (p.toNat * sz))) (q.toNat - p.toNat) (cap - p.toNat)) w := by
  refine ⟨nofun, fun _ _ _ _ => ?_⟩
  have hsb : ∀ w, (Instr.sliceBounds true len cap (lo.map ev) (hi.map ev) none).run P w = .ok (p.toNat, q.toNat, cap) w := by
    intro w
    have hB : ∀ (z : Value) (m : Int) (y : Nat) (cd : BoundsCode) (w : World), z = .int .i64 m → 0 ≤ m ∧ m ≤ y → (Instr.sliceBound z y cd).run P w = .ok m.toNat w := by
      intro z m y cd w hz hm
      subst hz
      simp only [Instr.sliceBound, asIntOf, Sem.run_bind, Sem.run_pure, Result.andThen_ok]
      rw [if_pos hm]
      rfl
    unfold Instr.sliceBounds
    cases hi with
    | none =>
      have e2 : len = q.toNat := by simp at hhi; omega
      simp only [Option.map_none, Sem.run_bind, Sem.run_pure, Result.andThen_ok, Option.isSome_none, Bool.false_eq_true, if_false, e2]
      cases lo with
      | none => simp at hlo; subst hlo; rfl
      | some z =>
        simp only [Option.map_some, Option.getD_some] at hlo
        simp only [Option.map_some, Sem.run_bind, hB (ev z) p q.toNat .sliceB w hlo (by omega), Result.andThen_ok]
        rfl
    | some z =>
      simp only [Option.map_some, Option.getD_some] at hhi
      simp only [Option.map_some, Sem.run_bind, Sem.run_pure, Result.andThen_ok, Option.isSome_none, Bool.false_eq_true, if_false, if_true, hB (ev z) q cap .sliceAcap w hhi (by omega)]
      cases lo with
      | none => simp at hlo; subst hlo; rfl
      | some z =>
        simp only [Option.map_some, Option.getD_some] at hlo
        simp only [Option.map_some, Sem.run_bind, hB (ev z) p q.toNat .sliceB w hlo (by omega), Result.andThen_ok]
        rfl
  simp only [execOp, Instr.sliceAt, Option.map_none, hx, Sem.run_bind, hu, Result.andThen_ok, Instr.slice, hsb, hs, Sem.run_pure]

theorem flatMap_take (E : Elt α) : ∀ (l : List α) (q : Nat), (l.take q).flatMap E.enc = (l.flatMap E.enc).take (q * E.sz) := by
  intro l
  induction l with
  | nil => intro q; simp
  | cons a l ih =>
    intro q
    cases q with
    | zero => simp
    | succ q =>
      have h1 : (q + 1) * E.sz = E.sz + q * E.sz := by rw [Nat.add_mul]; omega
      have h2 : E.sz + q * E.sz - E.sz = q * E.sz := by omega
      rw [List.take_succ_cons, List.flatMap_cons, List.flatMap_cons, ih, h1, List.take_append, E.len, h2]
      congr 1
      exact (List.take_of_length_le (by rw [E.len]; omega)).symm

/-- A slice of one's own is cut to its head. -/
theorem l_prefix {z : Operand} {q : Int} (S : Own X w0 w L) (j : Nat) (hj : L[j]? = some (vec E v l)) (hg : gOk all n ρ g = true) (hx : ev n ρ x = v) (hz : ev n ρ z = .int .i64 q)
    (hu : ∀ w, (underlying T).run P w = .ok (.slice E.T) w) (hs : ∀ w, (sizeOf E.T).run P w = .ok E.sz w) (hq : 0 ≤ q ∧ q ≤ l.length)
    (h : ∀ v', Own X w0 w (L.set j (vec E v' (l.take q.toNat))) → RunL P b cs fin n all rest k (upd ρ d v') ds w) :
    RunL P b cs fin n all (⟨some d, .slice T x none (some z) none, ty, pos, af, g⟩ :: rest) k ρ ds w := by
  have hlt : (l.take q.toNat).length = q.toNat := by rw [List.length_take]; omega
  rcases S.at j hj with ⟨hv, rfl⟩ | ⟨b', cap, c, hv, h1, h2, h3, h4, hb⟩
  · have hx2 := hx.trans hv
    have hq0 : q = 0 := by simp at hq; omega
    subst hq0
    refine l_x hg (x_cut hx2 hu hs (p := 0) (q := 0) rfl (by simp [hz]) (by simp) (Nat.le_refl _)) (h _ ?_)
    simp only [Int.toNat_zero, if_true, Nat.sub_self, List.take_nil]
    have : vec E (.slice none 0 0) ([] : List α) = vec E v [] := by rw [hv]
    rw [this]
    exact S.as j hj (S.at j hj) fun _ h => h
  · have hx2 := hx.trans hv
    refine l_x hg (x_cut hx2 hu hs (p := 0) (q := q) rfl (by simp [hz]) (by omega) h1) (h _ ?_)
    have e : (if cap = (0:Int).toNat then some (⟨b', 0, none⟩ : Addr) else Option.map (fun x : Addr => x.add ((0:Int).toNat * E.sz)) (some (⟨b', 0, none⟩ : Addr))) = some ⟨b', 0, none⟩ := by
      split
      · rfl
      · simp [addr_add]
    rw [e]
    simp only [Int.toNat_zero, Nat.sub_zero]
    refine S.as j hj (.inr ⟨b', cap, c, by rw [hlt], by rw [hlt]; omega, h2, h3, ?_, hb⟩) fun bb ⟨n', cap', e'⟩ => ⟨l.length, cap, by cases e'; exact hv⟩
    rw [hlt, flatMap_take, ← h4, List.take_take, Nat.min_eq_left]
    exact Nat.mul_le_mul_right _ (by omega)

/-- v' is what of v stands from place p on. -/
def Tail (E : Elt α) (v v' : Value) (p : Nat) : Prop :=
  (v = .slice none 0 0 ∧ v' = .slice none 0 0 ∧ p = 0) ∨
  ∃ b len cap, v = .slice (some ⟨b, 0, none⟩) len cap ∧ p ≤ len ∧ len ≤ cap ∧ v' = .slice (some ⟨b, if cap = p then 0 else p * E.sz, none⟩) (len - p) (cap - p)

/-- A slice of one's own is cut to its end. -/
theorem l_tail {z : Operand} {p : Int} (S : Own X w0 w L) (j : Nat) (hj : L[j]? = some (vec E v l)) (hg : gOk all n ρ g = true) (hx : ev n ρ x = v) (hz : ev n ρ z = .int .i64 p)
    (hu : ∀ w, (underlying T).run P w = .ok (.slice E.T) w) (hs : ∀ w, (sizeOf E.T).run P w = .ok E.sz w) (hq : 0 ≤ p ∧ p ≤ l.length)
    (h : ∀ v', Tail E v v' p.toNat → RunL P b cs fin n all rest k (upd ρ d v') ds w) :
    RunL P b cs fin n all (⟨some d, .slice T x (some z) none none, ty, pos, af, g⟩ :: rest) k ρ ds w := by
  rcases S.at j hj with ⟨hv, rfl⟩ | ⟨b', cap, c, hv, h1, h2, h3, h4, hb⟩
  · have hx2 := hx.trans hv
    have hq0 : p = 0 := by simp at hq; omega
    subst hq0
    exact l_x hg (x_cut hx2 hu hs (p := 0) (q := 0) (by simp [hz]) rfl (by simp) (Nat.le_refl _)) (h _ (.inl ⟨hv, by simp, rfl⟩))
  · have hx2 := hx.trans hv
    refine l_x hg (x_cut hx2 hu hs (p := p) (q := l.length) (by simp [hz]) rfl (by omega) h1) (h _ (.inr ⟨b', l.length, cap, hv, by omega, h1, ?_⟩))
    split
    · rename_i e; simp [e]
    · simp [addr_add]

theorem tail_rd {p : Nat} (ht : Tail E v v' p) (h : (vec E v l).ok w) : Rd E w v' (l.drop p) := by
  obtain ⟨a, cap0, hv, hc, hrow⟩ := vec_rd h
  rcases ht with ⟨hv1, rfl, rfl⟩ | ⟨b', len, cap, hv1, h1, h2, rfl⟩
  · rw [hv1] at hv
    simp only [Value.slice.injEq] at hv
    obtain ⟨rfl, hl, _⟩ := hv
    have : l = [] := List.eq_nil_of_length_eq_zero hl.symm
    subst this
    exact ⟨none, 0, rfl, Nat.le_refl _, fun i c hi => by simp at hi⟩
  · rw [hv1] at hv
    simp only [Value.slice.injEq] at hv
    obtain ⟨rfl, rfl, rfl⟩ := hv
    refine ⟨_, _, by rw [List.length_drop], by rw [List.length_drop]; omega, fun i c hi => ?_⟩
    rw [List.getElem?_drop] at hi
    obtain ⟨b2, o2, hb2, hr⟩ := hrow _ c hi
    simp only [Option.some.injEq, Addr.mk.injEq, and_true] at hb2
    obtain ⟨rfl, rfl⟩ := hb2
    have hil := (List.getElem?_eq_some_iff.1 hi).1
    have hne : cap ≠ p := by omega
    refine ⟨b', p * E.sz, by simp [hne], ?_⟩
    have e : p * E.sz + i * E.sz = 0 + (p + i) * E.sz := by rw [Nat.add_mul]; omega
    rw [e]; exact hr

/-- The end of a slice of one's own is cleared. -/
theorem l_clear {a0 : α} {z z0 : Value} {p : Nat} (S : Own X w0 w L) (j : Nat) (hj : L[j]? = some (vec E v l)) (hg : gOk all n ρ g = true) (ht : Tail E v v' p) (hx : ev n ρ x = v')
    (hu : ∀ w, (underlying T).run P w = .ok (.slice E.T) w) (hz : ∀ w, (zeroValue E.T).run P w = .ok z w) (hzc : z.cells = [z0].toArray) (hsz : E.sz = 1) (h0 : E.enc a0 = [z0])
    (h : ∀ w', Own X w0 w' (L.set j (vec E v (l.take p ++ List.replicate (l.length - p) a0))) → Keep (vec E v l).fp w w' → RunL P b cs fin n all rest k (updO d' (.tuple #[]) ρ) ds w') :
    RunL P b cs fin n all (⟨d', .call ⟨.builtin .clear, #[x], #[T]⟩, ty, pos, af, g⟩ :: rest) k ρ ds w := by
  have hrun : ∀ w', (Builtin.clear_ #[T] ty #[v']).run P w = .ok (.tuple #[]) w' → (execOp (ev n ρ) ⟨d', .call ⟨.builtin .clear, #[x], #[T]⟩, ty, pos, af, g⟩).run P w = .ok (.value (.tuple #[])) w' := by
    intro w' hw
    simp only [execOp, resolve, Sem.run_bind, Sem.run_pure, Result.andThen_ok, invoke, builtin, List.map_toArray, List.map_cons, List.map_nil, hx, hw]
  have hnone : l.length - p = 0 → (∃ a c, v' = .slice a 0 c) → RunL P b cs fin n all (⟨d', .call ⟨.builtin .clear, #[x], #[T]⟩, ty, pos, af, g⟩ :: rest) k ρ ds w := by
    rintro hl ⟨a, c, hv'⟩
    refine l_value hg nofun (hrun w ?_) (h w ?_ (Keep.refl _ _))
    · rw [hv']
      simp only [Builtin.clear_]
      cases a <;> simp [hu, go_sem]
    · rw [hl]
      have e : l.take p = l := List.take_of_length_le (by omega)
      rw [e]
      simp only [List.replicate_zero, List.append_nil]
      exact S.as j hj (S.at j hj) fun _ h => h
  rcases ht with ⟨hv, rfl, rfl⟩ | ⟨b1, len, cap1, hv, h1, h2, rfl⟩
  · rcases S.at j hj with ⟨_, rfl⟩ | ⟨b', cap, c, hv2, _⟩
    · exact hnone rfl ⟨_, _, rfl⟩
    · rw [hv] at hv2; cases hv2
  · rcases S.at j hj with ⟨hv2, _⟩ | ⟨b', cap, c, hv2, g1, g2, g3, g4, hb⟩
    · rw [hv] at hv2; cases hv2
    · have hv0 := hv2
      rw [hv] at hv2
      simp only [Value.slice.injEq, Option.some.injEq, Addr.mk.injEq, and_true] at hv2
      obtain ⟨rfl, rfl, rfl⟩ := hv2
      by_cases hp : l.length - p = 0
      · exact hnone hp ⟨_, _, by rw [hp]⟩
      · have hne : cap1 ≠ p := by omega
        have hc1 : c.length = cap1 := by rw [g3, hsz, Nat.mul_one]
        have h4 : c.take l.length = l.flatMap E.enc := by rw [← g4, hsz, Nat.mul_one]
        have hone : z0.oneCell' = true := E.one a0 z0 (by rw [h0]; exact List.mem_singleton.2 rfl)
        have hzs : (Builtin.zeroCells z.cells (l.length - p)).toList = List.replicate (l.length - p) z0 := by
          rw [hzc]
          simp only [Builtin.zeroCells, List.size_toArray, List.length_singleton, Nat.mul_one, Nat.mod_one, Array.toList_map, Array.toList_range]
          apply List.ext_getElem
          · simp
          · intro i h1 h2; simp
        have hst := run_storeCells_at P b1 p E.T (List.replicate (l.length - p) z0) 0 c.toArray w hb (by simp; omega) (by intro u hu'; rw [List.eq_of_mem_replicate hu']; exact hone)
        simp only [Nat.add_zero, List.length_replicate] at hst
        have hfl : ∀ m, (List.replicate m a0).flatMap E.enc = List.replicate m z0 := by
          intro m
          induction m with
          | zero => rfl
          | succ m ih => rw [List.replicate_succ, List.flatMap_cons, ih, h0]; rfl
        have hlen : (l.take p ++ List.replicate (l.length - p) a0).length = l.length := by simp; omega
        refine l_value hg nofun (hrun _ ?_) (h (w.setRow b1 (c.take p ++ List.replicate (l.length - p) z0 ++ c.drop (p + (l.length - p))).toArray) ?_ ((Keep.setRow w _).mono fun bb _ e => ⟨l.length, cap1, by subst e; exact hv0⟩))
        · obtain ⟨m, hm⟩ : ∃ m, l.length - p = m + 1 := ⟨l.length - p - 1, by omega⟩
          have ha : (if cap1 = p then 0 else p * E.sz) = p := by rw [if_neg hne, hsz, Nat.mul_one]
          rw [ha]
          rw [← hzs, hm] at hst
          rw [hm]
          simp only [Builtin.clear_, List.getElem?_toArray]
          simp only [List.getElem?_cons_zero, Sem.run_bind, hu, Result.andThen_ok, hz, hst, Sem.run_pure]
          rw [← hm, hzs]
        · refine S.turn j hj ((Keep.setRow w _).mono fun bb _ e => ⟨l.length, cap1, by subst e; exact hv0⟩) (fun _ _ h => h) ?_ (fun _ h => .inl h)
          refine .inr ⟨b1, cap1, _, by rw [hlen]; exact hv0, by rw [hlen]; exact g1, g2, ?_, ?_, setRow_heap w b1 _ _ E.T _ hb⟩
          · simp [hsz]; omega
          · rw [hlen, hsz, Nat.mul_one, List.flatMap_append, hfl, flatMap_take, hsz, Nat.mul_one, ← h4, List.take_take, Nat.min_eq_left h1]
            exact List.take_left' (by simp; omega)
end

theorem vec_nil_fp {α : Type} {E : Elt α} {l : List α} (b : Nat) : ¬ (vec E (.slice none 0 0) l).fp b := fun ⟨_, _, h⟩ => by cases h
theorem New.nilvec {α : Type} {E : Elt α} (w w' : World) : New w w' (vec E (.slice none 0 0) ([] : List α)) := ⟨.inl ⟨rfl, rfl⟩, fun b hb => absurd hb (vec_nil_fp b)⟩
theorem Own.nilvec {α : Type} {E : Elt α} {X : Nat → Prop} {w0 w : World} {L : List Rsc} (S : Own X w0 w L) : Own X w0 w (L ++ [vec E (.slice none 0 0) ([] : List α)]) := S.add (Le.refl w) (New.nilvec w w)

/-- While elements are deleted: of the first j those without p stand at the head. -/
structure DelInv {α : Type} (p : α → Bool) (l l1 : List α) (i j : Nat) : Prop where
  len : l1.length = l.length
  le : i ≤ j
  lej : j ≤ l.length
  tk : l1.take i = (l.take j).filter fun x => !p x
  dr : l1.drop j = l.drop j

section
variable {α : Type} {p : α → Bool} {l l1 : List α} {i j : Nat} {a : α}
theorem DelInv.at (h : DelInv p l l1 i j) (hj : l[j]? = some a) : l1[j]? = some a := by
  have h1 : (l1.drop j)[0]? = (l.drop j)[0]? := by rw [h.dr]
  simpa [hj] using h1
theorem DelInv.start (hi : l[i]? = some a) (hp : p a = true) (h : ∀ x ∈ l.take i, p x = false) : DelInv p l l i (i + 1) := by
  obtain ⟨hl, rfl⟩ := List.getElem?_eq_some_iff.1 hi
  refine ⟨rfl, by omega, by omega, ?_, rfl⟩
  rw [List.take_succ_eq_append_getElem hl, List.filter_append]
  have e1 : (l.take i).filter (fun x => !p x) = l.take i := List.filter_eq_self.2 fun x hx => by simp [h x hx]
  simp [e1, hp]
theorem DelInv.drop (h : DelInv p l l1 i j) (hj : l[j]? = some a) (hp : p a = true) : DelInv p l l1 i (j + 1) := by
  obtain ⟨hl, rfl⟩ := List.getElem?_eq_some_iff.1 hj
  refine ⟨h.len, by have := h.le; omega, by omega, ?_, ?_⟩
  · rw [h.tk, List.take_succ_eq_append_getElem hl, List.filter_append]; simp [hp]
  · rw [← List.drop_drop, ← List.drop_drop, h.dr]
theorem DelInv.keep (h : DelInv p l l1 i j) (hj : l[j]? = some a) (hp : p a = false) : DelInv p l (l1.set i a) (i + 1) (j + 1) := by
  obtain ⟨hl, rfl⟩ := List.getElem?_eq_some_iff.1 hj
  have hle := h.le
  have hlen := h.len
  refine ⟨by simp [h.len], by omega, by omega, ?_, ?_⟩
  · rw [List.take_succ_eq_append_getElem hl, List.filter_append, ← h.tk]
    have hi : i < (l1.set i l[j]).length := by simp; omega
    rw [List.take_succ_eq_append_getElem hi, List.take_set_of_le (Nat.le_refl i)]
    simp [hp]
  · rw [List.drop_set_of_lt (by omega), ← List.drop_drop, ← List.drop_drop, h.dr]
theorem DelInv.done (h : DelInv p l l1 i l.length) : l1.take i = l.filter fun x => !p x := by rw [h.tk, List.take_length]
end

/-- Resources in another order, or fewer of them. -/
theorem Own.pick {X : Nat → Prop} {w0 w : World} {L L' : List Rsc} (S : Own X w0 w L) (is : List Nat) (hn : is.Nodup) (h : L'.map some = is.map (L[·]?)) : Own X w0 w L' := by
  refine S.perm is hn fun k r hr => ?_
  have h1 : (L'.map some)[k]? = some (some r) := by rw [List.getElem?_map, hr]; rfl
  rw [h, List.getElem?_map] at h1
  cases hi : is[k]? with
  | none => rw [hi] at h1; cases h1
  | some i => rw [hi] at h1; exact ⟨i, rfl, Option.some.inj h1⟩
/-- What a call made. -/
theorem Own.join {X : Nat → Prop} {u w w' : World} {L M : List Rsc} (S : Own X u w L) (h : Own nob w w' M) : Own X u w' (L ++ M) := by
  have S' := S.step h.keep
  have cut : ∀ {k : Nat} {r : Rsc}, (L ++ M)[k]? = some r → (k < L.length ∧ L[k]? = some r) ∨ (L.length ≤ k ∧ M[k - L.length]? = some r) := by
    intro k r hr
    rcases Nat.lt_or_ge k L.length with hk | hk
    · rw [List.getElem?_append_left hk] at hr; exact .inl ⟨hk, hr⟩
    · rw [List.getElem?_append_right hk] at hr; exact .inr ⟨hk, hr⟩
  refine ⟨S'.keep, fun k r hr => ?_, fun k r hr b hb => ?_, fun j k r s hr hs hne b hb hb' => ?_⟩
  · rcases cut hr with ⟨_, hr⟩ | ⟨_, hr⟩
    · exact S'.ok k r hr
    · exact h.ok _ r hr
  · rcases cut hr with ⟨_, hr⟩ | ⟨_, hr⟩
    · exact S'.bd k r hr b hb
    · have := h.bd _ r hr b hb
      exact ⟨this.1, .inl (Nat.le_trans S.keep.size (this.2.resolve_right id))⟩
  · rcases cut hr with ⟨e1, hr⟩ | ⟨e1, hr⟩ <;> rcases cut hs with ⟨e2, hs⟩ | ⟨e2, hs⟩
    · exact S'.dj j k r s hr hs hne b hb hb'
    · have h1 := (S.bd j r hr b hb).1
      have h2 := (h.bd _ s hs b hb').2.resolve_right id
      omega
    · have h1 := (S.bd k s hs b hb').1
      have h2 := (h.bd _ r hr b hb).2.resolve_right id
      omega
    · exact h.dj _ _ r s hr hs (by omega) b hb hb'
theorem Own.here {X : Nat → Prop} {u w : World} {L : List Rsc} (S : Own X u w L) (hX : ∀ b, X b → u.heap.size ≤ b) : Le u w := S.old (Le.refl u) hX
end Go.Vk

/- The proof engine, part 15: ranges over functions within loops: marks that pile up among the deferred calls. Generic over the program. -/
namespace Go.Vk
open Go

section
variable {P : Program} {b : Frame} {cs : List Frame} {fin : Machine → Prop} {n : Nat} {k : List Item} {ρ : Env} {ds : List Deferred} {w : World}

/-- A loop whose rounds defer calls. -/
theorem r_loopD {G : Type} (μ : G → Nat) (slots : G → List (Nat × Value)) (I : G → World → Prop) (dd : G → List Deferred) {c : Code} (g : G) (ha : Agree ρ (slots g)) (hI : I g w) (hd : ds = dd g)
    (round : ∀ g ρ w, I g w → (∀ g' ρ' w' ds', μ g' < μ g → Agree ρ' (slots g') → I g' w' → ds' = dd g' → Run P b cs fin n (.inLoop c :: k) ρ' ds' w') →
      Run P b cs fin n (.code c :: .inLoop c :: k) (upds ρ (slots g)) (dd g) w) :
    Run P b cs fin n (.code (.loop c) :: k) ρ ds w := by
  subst hd
  have key : ∀ N g ρ w, μ g = N → Agree ρ (slots g) → I g w → Run P b cs fin n (.inLoop c :: k) ρ (dd g) w := by
    intro N
    induction N using Nat.strongRecOn with
    | _ N ih =>
      intro g ρ w hN ha hI
      refine r_inLoop0 ?_
      have := round g ρ w hI fun g' ρ' w' ds' hlt ha' hI' hd' => by subst hd'; exact ih _ (hN ▸ hlt) g' ρ' w' rfl ha' hI'
      rwa [upds_agree ha] at this
  have h := key _ g ρ w rfl ha hI
  refine r_loop0 ?_
  obtain ⟨m, hs, hf⟩ := h
  obtain ⟨j, hj⟩ := hs
  cases j with
  | zero =>
    have := round g ρ w hI fun g' ρ' w' ds' _ ha' hI' hd' => by subst hd'; exact key _ g' ρ' w' rfl ha' hI'
    rwa [upds_agree ha] at this
  | succ j =>
    have := round g ρ w hI fun g' ρ' w' ds' _ ha' hI' hd' => by subst hd'; exact key _ g' ρ' w' rfl ha' hI'
    rwa [upds_agree ha] at this
end

/-- Marks that are owned. -/
def marksR (Ds : List Nat) : Rsc := pack (Ds.map fun D => obj D (.deferred (some [])))

section
variable {X : Nat → Prop} {w0 w : World} {A M : List Rsc} {r : Rsc} {D : Nat} {Ds : List Nat}

theorem Own.nopack (S : Own X w0 w A) : Own X w0 w (A ++ [marksR []]) := by
  refine S.add (Le.refl w) ⟨⟨fun r hr => (by cases hr), fun j k r s hr => (by simp at hr)⟩, fun b hb => ?_⟩
  obtain ⟨r, hr, _⟩ := hb
  cases hr
/-- One mark more. -/
theorem Own.mcons (S : Own X w0 w (A ++ [Vk.obj D (.deferred (some [])), marksR Ds])) : Own X w0 w (A ++ [marksR (D :: Ds)]) := by
  have S1 : Own X w0 w ((A ++ [Vk.obj D (.deferred (some []))]) ++ [Vk.pack (Ds.map fun D => Vk.obj D (.deferred (some [])))]) := by rw [List.append_assoc]; exact S
  have S2 := S1.unpack
  rw [List.append_assoc] at S2
  exact S2.pack (A := A)
theorem Own.drop1 (S : Own X w0 w (A ++ r :: M)) : Own X w0 w (A ++ M) := by
  refine S.perm ((List.range (A.length + M.length)).map fun k => if k < A.length then k else k + 1) ?_ fun k s hs => ?_
  · refine List.Pairwise.map _ (fun a b h => ?_) List.nodup_range
    intro e
    split at e <;> split at e <;> omega
  · have hk : k < A.length + M.length := by have := (List.getElem?_eq_some_iff.1 hs).1; simpa using this
    refine ⟨if k < A.length then k else k + 1, by simp [hk], ?_⟩
    split
    · rename_i h; rw [List.getElem?_append_left h] at hs ⊢; exact hs
    · rename_i h
      rw [List.getElem?_append_right (by omega)] at hs ⊢
      have e : k + 1 - A.length = (k - A.length) + 1 := by omega
      rw [e, List.getElem?_cons_succ]; exact hs
end

section
variable {P : Program} {b : Frame} {cs : List Frame} {fin : Machine → Prop} {n : Nat} {k : List Item} {ρ : Env} {ds : List Deferred} {X : Nat → Prop} {w0 : World} {A : List Rsc}

/-- The way out, through all marks. -/
theorem leave_marks : ∀ (Ds : List Nat) {w : World}, Own X w0 w (A ++ [marksR Ds]) → (∀ w', Own X w0 w' A → Leave P b cs fin n k ρ ds w') → Leave P b cs fin n k ρ (Ds.map mark ++ ds) w := by
  intro Ds
  induction Ds with
  | nil => intro w S h; exact h w (by have := S.take A.length; rwa [List.take_left] at this)
  | cons D Ds ih =>
    intro w S h
    have S1 : Own X w0 w (A ++ (obj D (.deferred (some [])) :: Ds.map fun D => obj D (.deferred (some [])))) := Own.unpack (A := A) S
    refine leave_mark S1 A.length (by simp) fun w' S2 _ => ?_
    rw [List.set_append_right _ _ (Nat.le_refl _), Nat.sub_self, List.set_cons_zero] at S2
    exact ih (Own.pack (A := A) (S2.drop1)) h
end
end Go.Vk

/- The proof engine, part 14: slices of slices. Generic over the program. -/
namespace Go.Vk
open Go

/-- A slice's header. -/
abbrev Hd := Option Addr × Nat × Nat
def hv (h : Hd) : Value := .slice h.1 h.2.1 h.2.2
def hdE (T : TypeId) : Elt Hd where
  T := T
  sz := 1
  enc h := [hv h]
  zero := [.slice none 0 0]
  len _ := rfl
  zlen := rfl
  one a x h := by simp at h; subst h; rfl
  pos := by decide

/-- The slices that stand in a slice, each of one's own. -/
def nest {α : Type} (E : Elt α) (hs : List Hd) (ls : List (List α)) : List Rsc := List.zipWith (fun h l => vec E (hv h) l) hs ls

section
variable {α : Type} {E : Elt α} {hs : List Hd} {ls : List (List α)} {h h' : Hd} {l l' : List α} {j : Nat}
theorem nest_get (h1 : hs[j]? = some h) (h2 : ls[j]? = some l) : (nest E hs ls)[j]? = some (vec E (hv h) l) := by
  simp [nest, List.getElem?_zipWith, h1, h2]
theorem nest_set : ∀ (hs : List Hd) (ls : List (List α)) (j : Nat), (nest E hs ls).set j (vec E (hv h') l') = nest E (hs.set j h') (ls.set j l') := by
  intro hs
  induction hs with
  | nil => intro ls j; simp [nest]
  | cons h hs ih =>
    intro ls j
    cases ls with
    | nil => cases j <;> simp [nest]
    | cons l ls =>
      cases j with
      | zero => simp [nest]
      | succ j => have := ih ls j; simp only [nest] at this ⊢; simp [this]
theorem nest_nil (E : Elt α) (n : Nat) : ∀ r ∈ nest E (List.replicate n ((none, 0, 0) : Hd)) (List.replicate n ([] : List α)), r = vec E (.slice none 0 0) [] := by
  intro r hr
  simp only [nest, List.zipWith_replicate, List.mem_replicate] at hr
  exact hr.2

variable {X : Nat → Prop} {w0 w : World} {L : List Rsc}
/-- Slices that are nil need no memory. -/
theorem Own.nest (S : Own X w0 w L) (E : Elt α) (n : Nat) : Own X w0 w (L ++ [Vk.pack (Vk.nest E (List.replicate n (none, 0, 0)) (List.replicate n []))]) := by
  refine S.add (Le.refl w) ⟨⟨fun r hr => ?_, fun j k r s hr _ _ b hb => ?_⟩, fun b hb => ?_⟩
  · rw [nest_nil E n r hr]; exact .inl ⟨rfl, rfl⟩
  · rw [nest_nil E n r (List.mem_of_getElem? hr)] at hb; exact absurd hb (vec_nil_fp b)
  · obtain ⟨r, hr, hb⟩ := hb
    rw [nest_nil E n r hr] at hb
    exact absurd hb (vec_nil_fp b)

/-- One of the slices reads as its list. -/
theorem nest_rd (S : (Vk.pack (Vk.nest E hs ls)).ok w) (h1 : hs[j]? = some h) (h2 : ls[j]? = some l) : Rd E w (hv h) l :=
  vec_rd (S.1 _ (List.mem_of_getElem? (nest_get h1 h2)))
end
end Go.Vk

namespace Go.Vk
open Go
/-- The sizes of a struct's fields. -/
def Sizes (P : Program) : List Field → List Nat → Prop
  | [], [] => True
  | f :: fs, s :: ss => (∀ w, (sizeOf f.type).run P w = .ok s w) ∧ Sizes P fs ss
  | _, _ => False
def placesOf : List Field → List Nat → List (Nat × Nat)
  | f :: fs, s :: ss => (f.offset, s) :: placesOf fs ss
  | _, _ => []
theorem run_places {P : Program} : ∀ (fs : List Field) (ss : List Nat), Sizes P fs ss → ∀ w, (fs.mapM (m := Sem) fun f => do pure (f.offset, ← sizeOf f.type)).run P w = .ok (placesOf fs ss) w := by
  intro fs
  induction fs with
  | nil => intro ss h w; cases ss with
    | nil => simp [placesOf]
    | cons => cases h
  | cons f fs ih =>
    intro ss h w
    cases ss with
    | nil => cases h
    | cons s ss =>
      obtain ⟨h1, h2⟩ := h
      simp only [List.mapM_cons, Sem.run_bind, h1, Result.andThen_ok, Sem.run_pure, ih ss h2, placesOf]

theorem x_buildS {P : Program} {E : Operand → Value} {T ty : TypeId} {w : World} {parts : List (Nat × Operand)} {z : Value} {zc out : List Value} {fs : List Field} {ss : List Nat} (hz : ∀ w, (zeroValue T).run P w = .ok z w) (hzc : z.cells = zc.toArray)
    (hu : ∀ w, (underlying T).run P w = .ok (.struct fs.toArray) w) (hs : Sizes P fs ss)
    (hf : Instr.fill ((placesOf fs ss).toArray[·]?) zc.toArray (parts.map fun p => (p.1, E p.2)) = some out.toArray) : X P E (.build T parts.toArray) ty w (.agg out.toArray) w :=
  x_build hz hzc hu (fun w => by
    rw [List.mapM_toArray]
    show ((fs.mapM (m := Sem) fun f => do pure (f.offset, ← sizeOf f.type)) >>= fun l => pure l.toArray).run P w = _
    rw [Sem.run_bind, run_places fs ss hs w, Result.andThen_ok, Sem.run_pure]) hf
end Go.Vk

/- The proof engine, part 15: regions that draw their order, in which operations change memory. Generic over the program. -/
namespace Go.Vk
open Go

section
variable {P : Program} {b : Frame} {cs : List Frame} {fin : Machine → Prop} {n : Nat} {k : List Item} {ρ : Env} {ds : List Deferred} {w w' : World} {ops : Array Oper} {m : Nat} {G : World → World → Prop}

/-- Whatever order is picked from here on; each step goes by G. -/
def AnyE (P : Program) (n : Nat) (ops : Array Oper) (m : Nat) (G : World → World → Prop) (K : Env → World → Prop) : Nat → Array Bool → Env → World → Prop
  | 0, listed, ρ, w => ((∀ i, i < m → listed.getD i true = true) → K ρ w) ∧ ∀ (i : Nat), i < m → rdy ops listed i = false
  | f + 1, listed, ρ, w => ((∀ i, i < m → listed.getD i true = true) → K ρ w) ∧ ∀ (i : Nat) (o : Oper), i < m → ops[i]? = some o → rdy ops listed i = true →
      Sp P ops n ρ o w fun v w2 => G w w2 ∧ AnyE P n ops m G K f (listed.setIfInBounds i true) (updO o.dst v ρ) w2

/-- It yields v and leaves the world as it is, whatever has come by G. -/
def Exact (P : Program) (ops : Array Oper) (n : Nat) (G : World → World → Prop) (ρ : Env) (o : Oper) (w : World) (v : Value) : Prop := ∀ w1, G w w1 → Sp P ops n ρ o w1 fun u w2 => u = v ∧ w2 = w1

theorem AnyE.first {K : Env → World → Prop} {i : Nat} {oi : Oper} {v : Value} (hr0 : ∀ w, G w w) (htr : ∀ {u v w}, G u v → G v w → G u w) (hok : DrawOk ops m) (hi : ops[i]? = some oi) (him : i < m) :
    ∀ (f : Nat) (listed : Array Bool) (ρ : Env) (w : World), rdy ops listed i = true → Exact P ops n G ρ oi w v →
      AnyE P n ops m G K f (listed.setIfInBounds i true) (updO oi.dst v ρ) w → AnyE P n ops m G K (f + 1) listed ρ w := by
  intro f
  induction f with
  | zero =>
    intro listed ρ w hr hy H
    refine ⟨fun hl => ?_, fun j oj hjm hj hrj => ?_⟩
    · have := (rdy_spec hr).1; rw [hl i him] at this; cases this
    · by_cases e : j = i
      · subst e
        have : oj = oi := Option.some.inj (hj.symm.trans hi)
        subst this
        exact (hy w (hr0 w)).mono fun u w2 ⟨hu, h2⟩ => by subst hu; subst h2; exact ⟨hr0 _, H⟩
      · have := H.2 j hjm
        rw [rdy_other e hrj] at this
        cases this
  | succ f ih =>
    intro listed ρ w hr hy H
    refine ⟨fun hl => ?_, fun j oj hjm hj hrj => ?_⟩
    · have := (rdy_spec hr).1; rw [hl i him] at this; cases this
    · by_cases e : j = i
      · subst e
        have : oj = oi := Option.some.inj (hj.symm.trans hi)
        subst this
        exact (hy w (hr0 w)).mono fun u w2 ⟨hu, h2⟩ => by subst hu; subst h2; exact ⟨hr0 _, H⟩
      · have h2 := H.2 j oj hjm hj (rdy_other e hrj)
        have hap : apartB ops oi oj = true := by
          rcases hok.apart i j oi oj him hjm (Ne.symm e) hi hj with h | h | h
          · obtain ⟨_, o', ho', hw'⟩ := rdy_spec hrj
            have : o' = oj := Option.some.inj (ho'.symm.trans hj)
            subst this
            have := hw' i h
            rw [getD_both (rdy_spec hr).1] at this; cases this
          · obtain ⟨_, o', ho', hw'⟩ := rdy_spec hr
            have : o' = oi := Option.some.inj (ho'.symm.trans hi)
            subst this
            have := hw' j h
            rw [getD_both (rdy_spec hrj).1] at this; cases this
          · exact h
        obtain ⟨a1, a2, a3⟩ := apartB_spec hap
        rw [Sp.congr (not_sel (hok.sel j oj hj)) a1] at h2
        refine h2.mono fun u w2 ⟨h3, h4⟩ => ⟨h3, ?_⟩
        refine ih (listed.setIfInBounds j true) (updO oj.dst u ρ) w2 (rdy_other (Ne.symm e) hr) (fun w3 h5 => ?_) ?_
        · rw [Sp.congr (not_sel (hok.sel i oi hi)) a3]
          exact hy w3 (htr h3 h5)
        · rw [Array.setIfInBounds_comm _ _ e, ← updO_comm ρ v u a2]
          exact h4

/-- The state in the midst of a region: which operations have come. -/
def RE (P : Program) (b : Frame) (cs : List Frame) (fin : Machine → Prop) (n : Nat) (ops : Array Oper) (m : Nat) (G : World → World → Prop) (k : List Item) (ds : List Deferred) (listed : Array Bool) (ρ : Env) (w : World) : Prop :=
  ∃ f, AnyE P n ops m G (fun ρ w => RunL P b cs fin n ops (ops.toList.drop m) k ρ ds w) f listed ρ w

/-- **A region that draws its order, and changes memory.** The blocks of Y may be changed on the way. -/
theorem r_drawE {id : Nat} (m : Nat) (Y : Nat → Prop) (hmo : P.follows .mixedOrders = true) (hok : drawOk ops m = true)
    (h : ∀ w1, Le w w1 → RE P b cs fin n ops m (Keep Y) k ds (Array.replicate ops.size false) ρ w1) :
    Run P b cs fin n (.code (.region id ops true) :: k) ρ ds w := by
  refine Run.of_step stepR_region_draw ?_
  have hok := drawOk_spec hok
  obtain ⟨f, hf⟩ := h { w with drawn := w.drawn + 1 } (Le.drew w)
  have := any_run' (P := P) (n := n) (b := b) (cs := cs) (fin := fin) (k := k) (ds := ds) hok (A := AnyE P n ops m (Keep Y) fun ρ w => RunL P b cs fin n ops (ops.toList.drop m) k ρ ds w)
    (fun f listed ρ w h hl => by cases f with
      | zero => exact h.1 hl
      | succ f => exact h.1 hl)
    (fun f listed ρ w i o h hi ho hr => by cases f with
      | zero => have := h.2 i hi; rw [hr] at this; cases this
      | succ f => exact ⟨f, (h.2 i o hi ho hr).mono fun _ _ h => h.2⟩)
    (fun _ _ h => h) ops.size f (w.tape w.drawn (.order b.fn id)) (Array.replicate ops.size false) ρ { w with drawn := w.drawn + 1 } hf
    ⟨by simp, fun j o ho hj => by
      have : j < ops.size := (Array.getElem?_eq_some_iff.1 ho).1
      simp [this] at hj⟩ (fun i _ hi => by simp [hi]) (by omega)
  simp only [Region.schedule, hmo, Bool.true_or, if_true, Region.linearise]
  exact this

variable {Y : Nat → Prop} {listed listed' : Array Bool}

/-- A quiet operation, of those that are ready, is taken first. -/
theorem e_exact {v : Value} (i : Nat) (o : Oper) (hok : drawOk ops m = true) (ho : ops[i]? = some o) (him : Nat.blt i m = true) (hr : rdy ops listed i = true) (hl : listed.setIfInBounds i true = listed')
    (hx : Exact P ops n (Keep Y) ρ o w v) (h : RE P b cs fin n ops m (Keep Y) k ds listed' (updO o.dst v ρ) w) : RE P b cs fin n ops m (Keep Y) k ds listed ρ w := by
  subst hl
  obtain ⟨f, hf⟩ := h
  exact ⟨f + 1, AnyE.first (fun w => Keep.refl Y w) (fun h h' => h.trans h') (drawOk_spec hok) ho (by simpa using him) f listed ρ w hr hx hf⟩

/-- All have come. -/
theorem e_done (hr : ((List.range m).all fun i => !rdy ops listed i) = true) (h : RunL P b cs fin n ops (ops.toList.drop m) k ρ ds w) : RE P b cs fin n ops m G k ds listed ρ w := by
  refine ⟨0, fun _ => h, fun i hi => ?_⟩
  have := List.all_eq_true.1 hr i (List.mem_range.2 hi)
  simpa using this

theorem filter_lt {α : Type} {p q : α → Bool} {x : α} : ∀ {l : List α}, x ∈ l → (∀ y, q y = true → p y = true) → p x = true → q x = false → (l.filter q).length + 1 ≤ (l.filter p).length := by
  intro l
  induction l with
  | nil => intro h; cases h
  | cons y l ih =>
    intro hx hpq hp hq
    have hle : (l.filter q).length ≤ (l.filter p).length := by
      clear ih hx
      induction l with
      | nil => simp
      | cons z l ih =>
        by_cases hz : q z = true
        · simp [hz, hpq z hz, ih]
        · by_cases hz' : p z = true
          · simp [hz, hz']; omega
          · simp [hz, hz', ih]
    by_cases e : x = y
    · subst e; simp [hp, hq]; exact hle
    · have hx' : x ∈ l := by rcases List.mem_cons.1 hx with h | h; exact absurd h e; exact h
      have := ih hx' hpq hp hq
      by_cases hz : q y = true
      · simp [hz, hpq y hz]; exact this
      · by_cases hz' : p y = true
        · simp [hz, hz']; omega
        · simp [hz, hz']; exact this

/-- How many are still to come. -/
def left (m : Nat) (listed : Array Bool) : Nat := ((List.range m).filter fun i => !listed.getD i true).length
theorem left_le (m : Nat) (listed : Array Bool) : left m listed ≤ m := by
  have := List.length_filter_le (fun i => !listed.getD i true) (List.range m); simpa [left] using this
theorem left_set {x : Nat} (hx : x < m) (hl : listed.getD x true = false) : left m (listed.setIfInBounds x true) + 1 ≤ left m listed := by
  refine filter_lt (x := x) (List.mem_range.2 hx) (fun y hy => ?_) (by simp [hl]) ?_
  · simp only [Bool.not_eq_true'] at hy ⊢
    cases h : listed.getD y true with
    | false => rfl
    | true => rw [getD_set_mono h] at hy; cases hy
  · have : x < listed.size := by
      rcases Nat.lt_or_ge x listed.size with h | h
      · exact h
      · simp [h] at hl
    simp [this]

theorem AnyE.trunc {K : Env → World → Prop} : ∀ (f F : Nat) (listed : Array Bool) (ρ : Env) (w : World), left m listed ≤ f → AnyE P n ops m G K F listed ρ w → AnyE P n ops m G K f listed ρ w := by
  intro f
  induction f with
  | zero =>
    intro F listed ρ w hl h
    refine ⟨?_, fun i hi => ?_⟩
    · cases F with
      | zero => exact h.1
      | succ F => exact h.1
    · cases hr : rdy ops listed i with
      | false => rfl
      | true =>
        have := left_set hi (rdy_spec hr).1
        omega
  | succ f ih =>
    intro F listed ρ w hl h
    refine ⟨?_, fun i o hi ho hr => ?_⟩
    · cases F with
      | zero => exact h.1
      | succ F => exact h.1
    · cases F with
      | zero => have := h.2 i hi; rw [hr] at this; cases this
      | succ F =>
        have hls := left_set hi (rdy_spec hr).1
        exact (h.2 i o hi ho hr).mono fun v w2 ⟨h1, h2⟩ => ⟨h1, ih F _ _ _ (by omega) h2⟩

def Each (Q : Nat → Prop) : List Nat → Prop
  | [] => True
  | i :: l => Q i ∧ Each Q l
theorem Each.mem {Q : Nat → Prop} : ∀ {l : List Nat} {i : Nat}, Each Q l → i ∈ l → Q i := by
  intro l
  induction l with
  | nil => intro i _ h; cases h
  | cons j l ih =>
    intro i h hi
    rcases List.mem_cons.1 hi with rfl | hi
    · exact h.1
    · exact ih h.2 hi

/-- What it takes that operation i comes next. -/
def Nx (P : Program) (b : Frame) (cs : List Frame) (fin : Machine → Prop) (n : Nat) (ops : Array Oper) (m : Nat) (Y : Nat → Prop) (k : List Item) (ds : List Deferred) (listed : Array Bool) (ρ : Env) (w : World) (i : Nat) : Prop :=
  ∃ o listed', ops[i]? = some o ∧ listed.setIfInBounds i true = listed' ∧ Sp P ops n ρ o w fun v w2 => Keep Y w w2 ∧ RE P b cs fin n ops m (Keep Y) k ds listed' (updO o.dst v ρ) w2

/-- Those that may come next. -/
theorem e_next (is : List Nat) (hl : ((List.range m).all fun i => listed.getD i true) = false) (hr : ((List.range m).all fun j => is.contains j || !rdy ops listed j) = true)
    (h : Each (Nx P b cs fin n ops m Y k ds listed ρ w) is) : RE P b cs fin n ops m (Keep Y) k ds listed ρ w := by
  refine ⟨m + 1, fun hall => ?_, fun i o hi ho hri => ?_⟩
  · rw [List.all_eq_true.2 fun i hi => hall i (List.mem_range.1 hi)] at hl; cases hl
  · have h1 := List.all_eq_true.1 hr i (List.mem_range.2 hi)
    rw [hri] at h1
    obtain ⟨o', listed', ho', hl', hs⟩ := h.mem (i := i) (by simpa using h1)
    have : o' = o := Option.some.inj (ho'.symm.trans ho)
    subst this
    subst hl'
    exact hs.mono fun v w2 ⟨h1, f, hf⟩ => ⟨h1, hf.trunc _ _ _ _ _ (left_le _ _)⟩
end

section
variable {P : Program} {n : Nat} {all : Array Oper} {ρ : Env} {w w' : World} {d : Nat} {op : Op} {ty : TypeId} {pos : String} {af : Array Edge} {g : Option (Nat × Bool)} {v : Value} {Y : Nat → Prop} {o : Oper} {Φ : Value → World → Prop}

/-- A quiet operation. -/
theorem ex_x (hg : gOk all n ρ g = true) (hx : ∀ w1, Keep Y w w1 → X P (ev n ρ) op ty w1 v w1) : Exact P all n (Keep Y) ρ ⟨some d, op, ty, pos, af, g⟩ w v := by
  intro w1 h1
  unfold Sp
  rw [if_pos hg]
  exact ⟨(hx w1 h1).1, .inl ⟨v, w1, (hx w1 h1).2 .., rfl, rfl⟩⟩
theorem ex_pass (hg : gOk all n ρ o.guard = false) : Exact P all n (Keep Y) ρ o w undef := by
  intro w1 h1
  unfold Sp
  rw [if_neg (by simp [hg])]
  exact ⟨rfl, rfl⟩
/-- An operation that yields a value and changes the world. -/
theorem s_x {d' : Option Nat} (hg : gOk all n ρ g = true) (hx : X P (ev n ρ) op ty w v w') (h : Φ v w') : Sp P all n ρ ⟨d', op, ty, pos, af, g⟩ w Φ := by
  unfold Sp
  rw [if_pos hg]
  exact ⟨hx.1, .inl ⟨v, w', hx.2 .., h⟩⟩
theorem s_pass (hg : gOk all n ρ o.guard = false) (h : Φ undef w) : Sp P all n ρ o w Φ := by
  unfold Sp
  rw [if_neg (by simp [hg])]
  exact h
/-- A call. -/
theorem s_call (hg : gOk all n ρ o.guard = true) (hnd : ∀ c, o.op ≠ .defer c) {f : FuncId} {args : Array Value} (hr : (execOp (ev n ρ) o).run P w = .ok (.enter f args) w) (hc : Cl P f args w Φ) : Sp P all n ρ o w Φ := by
  unfold Sp
  rw [if_pos hg]
  exact ⟨hnd, .inr (.inl ⟨f, args, w, hr, hc⟩)⟩
end

section
variable {P : Program} {n : Nat} {all : Array Oper} {ρ : Env} {w w' : World} {d : Nat} {ty : TypeId} {pos : String} {af : Array Edge} {g : Option (Nat × Bool)} {v : Value} {T : TypeId} {x y : Operand} {Φ : Value → World → Prop}
  {X : Nat → Prop} {w0 : World} {L : List Rsc} {α : Type} {E : Elt α}
theorem s_buildSlice (E : Elt α) {len : Nat} {parts : List (Nat × Operand)} (as : List α) {z : Value} (S : Own X w0 w L) (hg : gOk all n ρ g = true) (hu : ∀ w, (underlying T).run P w = .ok (.slice E.T) w)
    (hs : ∀ w, (sizeOf E.T).run P w = .ok E.sz w) (hz : ∀ w, (zeroValue E.T).run P w = .ok z w) (hl : as.length = len) (hp : PartsOk (ev n ρ) E 0 parts as) (hsm : len * E.sz ≤ 16777216)
    (h : ∀ v w', Own X w0 w' (L ++ [vec E v as]) → Le w w' → Φ v w') :
    Sp P all n ρ ⟨some d, .buildSlice T len parts.toArray, ty, pos, af, g⟩ w Φ := by
  have hpos := E.pos
  have hlen : len ≤ maxLen := by
    have : len ≤ len * E.sz := Nat.le_mul_of_pos_right _ hpos
    simp only [maxLen]; omega
  subst hl
  refine s_x hg (v := .slice (some ⟨w.heap.size, 0, none⟩) as.length as.length) (w' := w.alloc (.cells (as.flatMap E.enc).toArray E.T (0, 0))) ⟨nofun, fun _ _ _ _ => ?_⟩
    (h _ _ (S.add (Le.alloc_cells _ _ _) (vec_new (Nat.le_refl _) hlen (flatMap_enc_length E as) (by rw [List.take_of_length_le]; rw [flatMap_enc_length]; exact Nat.le_refl _))) (Le.alloc_cells _ _ _))
  simp only [execOp, Instr.buildSlice, Sem.run_bind, hu, hs, Result.andThen_ok]
  rw [if_neg (by simpa using hsm)]
  have hfill : ∀ zz : Array Value, Instr.fill (fun i => some (i * E.sz, E.sz)) ((Array.range (as.length * E.sz)).map (zz[· % zz.size]!)) (parts.map fun p => (p.1, ev n ρ p.2)) = some (as.flatMap E.enc).toArray := by
    intro zz
    have := fill_parts (E := E) (ev := ev n ρ) parts as 0 [] ((Array.range (as.length * E.sz)).map (zz[· % zz.size]!)).toList hp (by simp) (by simp)
    simpa only [List.nil_append, Array.toArray_toList] using this
  simp only [List.map_toArray]
  by_cases h0 : as.length * E.sz = 0
  · rw [if_pos h0]
    simp only [Sem.run_bind, Sem.run_pure, Result.andThen_ok, hfill]
    rfl
  · rw [if_neg h0]
    simp only [Sem.run_bind, hz, Sem.run_pure, Result.andThen_ok, hfill]
    rfl

theorem s_make (E : Elt α) (a0 : α) {len cap : Nat} {ti : TypeInfo} {z : Value} (S : Own X w0 w L) (hg : gOk all n ρ g = true) (hu : ∀ w, (underlying T).run P w = .ok (.slice E.T) w)
    (hs : ∀ w, (sizeOf E.T).run P w = .ok E.sz w) (hti : ∀ w, (typeInfo E.T).run P w = .ok ti w) (hz : ∀ w, (zeroValue E.T).run P w = .ok z w) (hzc : z.cells = E.zero.toArray) (h0 : E.enc a0 = E.zero)
    (hx : ev n ρ x = .int .i64 len) (hy : ev n ρ y = .int .i64 cap) (hlc : len ≤ cap) (hm : cap ≤ maxLen) (hb : cap * ti.bytes ≤ 140737488355328)
    (h : ∀ v w', (∃ b, v = .slice (some ⟨b, 0, none⟩) len cap) → Own X w0 w' (L ++ [vec E v (List.replicate len a0)]) → Le w w' → Φ v w') :
    Sp P all n ρ ⟨some d, .makeSlice T x y, ty, pos, af, g⟩ w Φ := by
  have hpos := E.pos
  have hm' : cap ≤ 9223372036854775807 := by simp only [maxLen] at hm; omega
  have hvn := vec_new (w := w) (E := E) (c := (List.replicate cap E.zero).flatten) (l := List.replicate len a0) (cap := cap) (by simpa using hlc) hm (by simp [E.zlen]) (by
    rw [List.length_replicate, flatMap_replicate, h0]
    obtain ⟨e, rfl⟩ : ∃ e, cap = len + e := ⟨cap - len, by omega⟩
    rw [← List.replicate_append_replicate, List.flatten_append, List.take_append_of_le_length (by simp [E.zlen]), List.take_of_length_le (by simp [E.zlen])])
  rw [List.length_replicate] at hvn
  refine s_x hg (v := .slice (some ⟨w.heap.size, 0, none⟩) len cap) (w' := w.alloc (.cells (List.replicate cap E.zero).flatten.toArray E.T (0, 0))) ⟨nofun, fun _ _ _ _ => ?_⟩
    (h _ _ ⟨_, rfl⟩ (S.add (Le.alloc_cells _ _ _) hvn) (Le.alloc_cells _ _ _))
  have hw1 : IntKind.i64.wrap (len : Int) = len := IntWalk.i64_in _ (by omega)
  have hw2 : IntKind.i64.wrap (cap : Int) = cap := IntWalk.i64_in _ (by omega)
  have eb : ∀ m : Nat, (ti.bytes : Int) * (m : Int) = ((m * ti.bytes : Nat) : Int) := fun m => by rw [Int.natCast_mul, Int.mul_comm]
  have hlen : len * ti.bytes ≤ 140737488355328 := Nat.le_trans (Nat.mul_le_mul_right _ hlc) hb
  have hroom : ∀ w, (askRoom (cap * ti.bytes)).run P w = .ok () w := by
    intro w
    unfold askRoom roomBytes
    rw [if_neg (by omega)]
    rfl
  have hcells : ∀ zz : Array Value, (cap * E.sz = 0 ∨ zz = E.zero.toArray) → (Array.range (cap * E.sz)).map (fun i => zz[i % zz.size]!) = (List.replicate cap E.zero).flatten.toArray := by
    intro zz hz0
    by_cases hc : cap * E.sz = 0
    · have : cap = 0 := by
        rcases Nat.mul_eq_zero.1 hc with h | h
        · exact h
        · omega
      subst this
      simp
    · have hzz := hz0.resolve_left hc
      have := range_zero E.zero cap
      rw [← this, E.zlen, hzz]
      apply Array.ext'
      simp [E.zlen]
  have htl : ∀ m : Nat, m * ti.bytes ≤ 140737488355328 → (decide ((m : Int) < 0) || decide ((ti.bytes : Int) * (m : Int) > 2 ^ 48)) = false := by
    intro m hm
    rw [eb]
    have h1 : ¬ ((m : Int) < 0) := by omega
    have h2 : ¬ (((m * ti.bytes : Nat) : Int) > 2 ^ 48) := by
      rw [show (2 : Int) ^ 48 = 281474976710656 from rfl]; omega
    simp only [h1, h2, decide_false, Bool.or_false]
  simp only [execOp, Instr.makeSlice, Sem.run_bind, hu, Result.andThen_ok, hx, hy, asInt, asIntOf, Sem.run_pure, hti, hw1, hw2, htl cap hb, htl len hlen]
  have h3 : ¬ ((len : Int) < 0) := by omega
  have h4 : ¬ ((len : Int) > (cap : Int)) := by omega
  simp only [h3, h4, decide_false, Bool.or_false, Bool.false_eq_true, if_false, Int.toNat_natCast]
  by_cases h0 : cap * E.sz = 0
  · simp only [Sem.run_bind, hroom, Result.andThen_ok, hs]
    rw [if_pos h0]
    simp only [Sem.run_bind, Sem.run_pure, Result.andThen_ok, hcells _ (.inl h0)]
    rfl
  · simp only [Sem.run_bind, hroom, Result.andThen_ok, hs]
    rw [if_neg h0]
    simp only [Sem.run_bind, hz, hzc, Sem.run_pure, Result.andThen_ok, hcells _ (.inr rfl)]
    rfl


theorem s_append (E : Elt α) {i : TypeInfo} {z : Value} {xv : Value} {l xs : List α} (S : Own X w0 w L) (j : Nat) (hj : L[j]? = some (vec E v l)) (hg : gOk all n ρ g = true) (hx : ev n ρ x = v) (hy : ev n ρ y = xv) (hr : Rd E w xv xs)
    (ht : P.underlying T = some (.slice E.T)) (hi : P.info? E.T = some i) (hz : i.zero = some z) (hsz : i.size = E.sz) (hzc : z.cells.size = E.sz)
    (h63 : l.length + xs.length ≤ maxLen) (h47 : (l.length + xs.length) * i.bytes ≤ 140737488355328)
    (h : ∀ v' w', Own X w0 w' (L.set j (vec E v' (l ++ xs))) → Keep (vec E v l).fp w w' → (l ++ xs ≠ [] → ∃ b cap, v' = .slice (some ⟨b, 0, none⟩) (l.length + xs.length) cap) → Φ v' w') :
    Sp P all n ρ ⟨some d, .call ⟨.builtin .append, #[x, y], #[T, T]⟩, ty, pos, af, g⟩ w Φ := by
  obtain ⟨v', w', hrun, h1, h2, h3⟩ := run_append_vec (P := P) (ty := ty) S j hj hr ht hi hz hsz hzc h63 h47
  refine s_x hg ⟨nofun, fun _ _ _ _ => ?_⟩ (h v' w' h1 h2 h3)
  simp only [execOp, resolve, Sem.run_bind, Sem.run_pure, Result.andThen_ok, invoke, builtin, List.map_toArray, List.map_cons, List.map_nil, hx, hy, hrun]

theorem s_box {X : Nat → Prop} {w0 : World} {L : List Rsc} {c : List Value} (S : Own X w0 w L) (hg : gOk all n ρ g = true) (hx : (ev n ρ x).cells = c.toArray)
    (h : ∀ b' w', Own X w0 w' (L ++ [blk b' c T]) → Le w w' → Φ (.pointer (some ⟨b', 0, none⟩)) w') :
    Sp P all n ρ ⟨some d, .box T x, ty, pos, af, g⟩ w Φ := by
  refine s_x hg (v := .pointer (some ⟨w.heap.size, 0, none⟩)) (w' := w.alloc (.cells c.toArray T (0, 0))) ⟨nofun, fun _ _ _ _ => ?_⟩ (h _ _ (S.alloc c T) (Le.alloc_cells _ _ _))
  simp only [execOp, Instr.box, Sem.run_bind, run_newVar, Result.andThen_ok, Sem.run_pure, hx]

theorem s_alloc {X : Nat → Prop} {w0 : World} {L : List Rsc} {c : List Value} {z : Value} (S : Own X w0 w L) (hg : gOk all n ρ g = true) (hz : ∀ w, (zeroValue T).run P w = .ok z w) (hx : z.cells = c.toArray)
    (h : ∀ b' w', Own X w0 w' (L ++ [blk b' c T]) → Le w w' → Φ (.pointer (some ⟨b', 0, none⟩)) w') :
    Sp P all n ρ ⟨some d, .alloc T, ty, pos, af, g⟩ w Φ := by
  refine s_x hg (v := .pointer (some ⟨w.heap.size, 0, none⟩)) (w' := w.alloc (.cells c.toArray T (0, 0))) ⟨nofun, fun _ _ _ _ => ?_⟩ (h _ _ (S.alloc c T) (Le.alloc_cells _ _ _))
  simp only [execOp, Instr.alloc, Sem.run_bind, hz, run_newVar, Result.andThen_ok, Sem.run_pure, hx]

theorem s_callf {all : Array Oper} {d' : Option Nat} {F : Operand} {as : List Operand} {ts : Array TypeId} {f : FuncId} (first cap vals : List Value)
    (hg : gOk all n ρ g = true) (hF : ev n ρ F = .func (.func f) first.toArray cap.toArray) (he : ∀ args w, (callFunc f args).run P w = .ok (.enter f args) w) (ha : first ++ as.map (ev n ρ) ++ cap = vals)
    (hc : Cl P f vals.toArray w Φ) : Sp P all n ρ ⟨d', .call ⟨.value F, as.toArray, ts⟩, ty, pos, af, g⟩ w Φ := by
  subst ha
  refine s_call hg nofun ?_ hc
  exact run_call hF he rfl
end

section
variable {P : Program} {b : Frame} {cs : List Frame} {fin : Machine → Prop} {n : Nat} {k : List Item} {ρ : Env} {ds : List Deferred} {w w' : World} {ops : Array Oper} {m : Nat} {Y : Nat → Prop} {listed : Array Bool}
theorem e_split {d : Nat} {t : Bool} (hd : ρ d = .bool t) (ht : t = true → RE P b cs fin n ops m (Keep Y) k ds listed (upd ρ d (.bool true)) w) (hf : t = false → RE P b cs fin n ops m (Keep Y) k ds listed (upd ρ d (.bool false)) w) :
    RE P b cs fin n ops m (Keep Y) k ds listed ρ w := by
  cases t
  · have := hf rfl; rwa [upd_self hd] at this
  · have := ht rfl; rwa [upd_self hd] at this
theorem e_splitd {d : Nat} {p : Prop} [Decidable p] (hd : ρ d = .bool (decide p)) (ht : p → RE P b cs fin n ops m (Keep Y) k ds listed (upd ρ d (.bool true)) w) (hf : ¬ p → RE P b cs fin n ops m (Keep Y) k ds listed (upd ρ d (.bool false)) w) :
    RE P b cs fin n ops m (Keep Y) k ds listed ρ w := e_split hd (fun h => ht (of_decide_eq_true h)) (fun h => hf (of_decide_eq_false h))
/-- Behind these operations, in whatever order they came, only the named slots are known. -/
theorem e_cut {G : Type} (slots : G → List (Nat × Value)) (I : G → World → Prop)
    (hK : ∀ g ρ w, I g w → RunL P b cs fin n ops (ops.toList.drop m) k (upds ρ (slots g)) ds w)
    (h : (∀ g ρ w, Agree ρ (slots g) → I g w → RunL P b cs fin n ops (ops.toList.drop m) k ρ ds w) → RE P b cs fin n ops m (Keep Y) k ds listed ρ w) : RE P b cs fin n ops m (Keep Y) k ds listed ρ w :=
  h fun g ρ w ha hi => by have := hK g ρ w hi; rwa [upds_agree ha] at this

/-- A resource of which only the blocks are known. -/
def loose (r : Rsc) : Rsc := ⟨r.fp, fun _ => True, fun _ h => h⟩
theorem Own.under {X : Nat → Prop} {w0 w1 : World} {L : List Rsc} {r : Rsc} (S : Own X w0 w L) (j : Nat) (hj : L[j]? = some r) (h : Keep r.fp w w1) : Own X w0 w1 (L.set j (loose r)) :=
  S.turn j hj h (fun _ _ h => h) trivial fun _ h => .inl h
end

section
variable {P : Program} {b : Frame} {cs : List Frame} {fin : Machine → Prop} {n : Nat} {k : List Item} {ρ : Env} {ds : List Deferred} {w w' : World} {ops : Array Oper} {m : Nat} {Y : Nat → Prop} {listed listed' : Array Bool}
  {d : Nat} {ty : TypeId} {pos : String} {af : Array Edge} {g : Option (Nat × Bool)} {v : Value} {T : TypeId} {x y : Operand}
/-- The place of a slice's element. -/
theorem e_index {α : Type} (L : Elt α) {l : List α} {j : Int} {q : α} (i : Nat) (hok : drawOk ops m = true) (ho : ops[i]? = some ⟨some d, .indexAddr T x y, ty, pos, af, g⟩) (him : Nat.blt i m = true) (hr : rdy ops listed i = true)
    (hl : listed.setIfInBounds i true = listed') (hg : gOk ops n ρ g = true) (hrd : Rd L w v l) (hx : ev n ρ x = v) (hy : ev n ρ y = .int .i64 j)
    (hu : ∀ w, (underlying T).run P w = .ok (.slice L.T) w) (hs : ∀ w, (sizeOf L.T).run P w = .ok L.sz w) (hb : 0 ≤ j) (hi : l[j.toNat]? = some q)
    (h : ∀ b' o', At L v j.toNat ⟨b', o', none⟩ → RE P b cs fin n ops m (Keep Y) k ds listed' (upd ρ d (.pointer (some ⟨b', o', none⟩))) w) :
    RE P b cs fin n ops m (Keep Y) k ds listed ρ w := by
  obtain ⟨p, cap, rfl, hc, hrow⟩ := hrd
  obtain ⟨b', o', rfl, hrw⟩ := hrow j.toNat q hi
  have hlt : j.toNat < l.length := (List.getElem?_eq_some_iff.1 hi).1
  exact e_exact i _ hok ho him hr hl (ex_x hg fun w1 _ => x_indexAddr_slice hx hy hu hs ⟨hb, by omega⟩) (h b' (o' + j.toNat * L.sz) ⟨b', o', _, _, rfl, rfl⟩)
end
theorem rd_row {α : Type} {E : Elt α} {w : World} {v : Value} {l : List α} {i b' o' : Nat} {a : α} (h : Rd E w v l) (hat : At E v i ⟨b', o', none⟩) (ha : l[i]? = some a) : Row w b' o' (E.enc a) := by
  obtain ⟨p, cap, rfl, _, hrow⟩ := h
  obtain ⟨b1, o1, rfl, hr⟩ := hrow i a ha
  obtain ⟨b2, o2, len, cap2, hv, hq⟩ := hat
  simp only [Value.slice.injEq, Option.some.injEq, Addr.mk.injEq, and_true] at hv hq
  obtain ⟨⟨rfl, rfl⟩, _⟩ := hv
  obtain ⟨rfl, rfl⟩ := hq
  exact hr

section
variable {P : Program} {n : Nat} {all : Array Oper} {ρ : Env} {w w' : World} {ty : TypeId} {pos : String} {af : Array Edge} {g : Option (Nat × Bool)} {o : Oper} {Φ : Value → World → Prop}
theorem s_skip (hg : gOk all n ρ o.guard = true) (hnd : ∀ c, o.op ≠ .defer c) (hr : (execOp (ev n ρ) o).run P w = .ok .skip w') (h : Φ undef w') : Sp P all n ρ o w Φ := by
  unfold Sp
  rw [if_pos hg]
  exact ⟨hnd, .inr (.inr ⟨w', hr, h⟩)⟩
variable {T : TypeId} {x y : Operand} {X : Nat → Prop} {w0 : World} {L : List Rsc} {d' : Option Nat} {α : Type} {E : Elt α} {v : Value} {b' o f i : Nat} {l : List α} {a a' : α}
theorem s_stores {X : Nat → Prop} {w0 : World} {L : List Rsc} {b' o : Nat} {c vs c' : List Value} {T0 : TypeId} {d' : Option Nat} (S : Own X w0 w L) (j : Nat) (hj : L[j]? = some (blk b' c T0)) (hg : gOk all n ρ g = true)
    (hx : ev n ρ x = .pointer (some ⟨b', o, none⟩)) (hy : (ev n ρ y).cells = vs.toArray) (h1 : ∀ v ∈ vs, v.oneCell' = true) (hs : ∀ w, (sizeOf T).run P w = .ok vs.length w) (ho : o + vs.length ≤ c.length)
    (hc : splice c o vs = c')
    (h : ∀ w', Own X w0 w' (L.set j (blk b' c' T0)) → Keep (· = b') w w' → Φ undef w') :
    Sp P all n ρ ⟨d', .store T x y, ty, pos, af, g⟩ w Φ := by
  subst hc
  refine s_skip hg nofun (w' := w.setRow b' (splice c o vs).toArray) ?_ (h _ (S.setRow j hj _) (Keep.setRow w _))
  have hr := run_storeCells_at P b' o T0 vs 0 c.toArray w (S.blk j hj) (by simpa using ho) h1
  simp only [execOp, hx, Instr.storeAt, Instr.sureAddr, Sem.run_bind, Sem.run_pure, Result.andThen_ok, storeVar, hs]
  rw [hy]
  simp only [List.size_toArray, ne_eq, not_true_eq_false, if_false]
  rw [hr]
  simp only [Result.andThen_ok, Nat.add_zero]
  rfl

theorem s_storev {b' o f : Nat} {i : Nat} {l : List α} {a a' : α} {vs : List Value} (S : Own X w0 w L) (j : Nat) (hj : L[j]? = some (vec E v l)) (hg : gOk all n ρ g = true) (hat : At E v i ⟨b', o, none⟩)
    (hx : ev n ρ x = .pointer (some ⟨b', o + f, none⟩)) (hy : (ev n ρ y).cells = vs.toArray) (hs : ∀ w, (sizeOf T).run P w = .ok vs.length w) (h1 : ∀ u ∈ vs, u.oneCell' = true) (ha : l[i]? = some a) (hf : f + vs.length ≤ E.sz)
    (he : splice (E.enc a) f vs = E.enc a') (h : ∀ w', Own X w0 w' (L.set j (vec E v (l.set i a'))) → Keep (vec E v l).fp w w' → Φ undef w') :
    Sp P all n ρ ⟨d', .store T x y, ty, pos, af, g⟩ w Φ := by
  obtain ⟨bb, oo, len, cap0, hv, hadr⟩ := hat
  have hok := S.at j hj
  rcases hok with ⟨rfl, rfl⟩ | ⟨b2, cap, c, hv2, g1, g2, g3, g4, hb⟩
  · cases hv
  · rw [hv2] at hv
    simp only [Value.slice.injEq, Option.some.injEq, Addr.mk.injEq, and_true] at hv
    obtain ⟨⟨rfl, rfl⟩, rfl, rfl⟩ := hv
    simp only [Addr.mk.injEq, and_true, Nat.zero_add] at hadr
    obtain ⟨rfl, rfl⟩ := hadr
    have hil : i < l.length := (List.getElem?_eq_some_iff.1 ha).1
    have hbound : i * E.sz + f + vs.length ≤ l.length * E.sz := by
      have : (i + 1) * E.sz ≤ l.length * E.sz := Nat.mul_le_mul_right _ hil
      rw [Nat.add_mul] at this; omega
    have hcl : l.length * E.sz ≤ c.length := by rw [g3]; exact Nat.mul_le_mul_right _ g1
    have hK : Keep (vec E v l).fp w (w.setRow b' (splice c (i * E.sz + f) vs).toArray) := (Keep.setRow w _).mono fun bb _ e => ⟨l.length, cap, by subst e; exact hv2⟩
    refine s_skip hg nofun (w' := w.setRow b' (splice c (i * E.sz + f) vs).toArray) ?_ (h _ (S.turn j hj hK (fun _ _ h => h) (.inr ⟨b', cap, splice c (i * E.sz + f) vs, by simpa using hv2, by simpa using g1, g2, ?_, ?_, setRow_heap w b' _ _ E.T _ hb⟩) (fun _ h => .inl h)) hK)
    · have hr := run_storeCells_at P b' (i * E.sz + f) E.T vs 0 c.toArray w hb (by simp; omega) h1
      simp only [execOp, hx, Instr.storeAt, Instr.sureAddr, Sem.run_bind, Sem.run_pure, Result.andThen_ok, storeVar, hs]
      rw [hy]
      simp only [List.size_toArray, ne_eq, not_true_eq_false, if_false]
      rw [hr]
      simp only [Result.andThen_ok, Nat.add_zero]
      rfl
    · rw [splice_length (by omega), g3]
    · rw [List.length_set, take_splice hbound hcl, g4, flatMap_splice E l i f a a' vs ha hf he]

theorem s_storev1 {u : Value} (S : Own X w0 w L) (j : Nat) (hj : L[j]? = some (vec E v l)) (hg : gOk all n ρ g = true) (hat : At E v i ⟨b', o, none⟩)
    (hx : ev n ρ x = .pointer (some ⟨b', o + f, none⟩)) (hy : ev n ρ y = u) (h1 : u.oneCell' = true) (hs : ∀ w, (sizeOf T).run P w = .ok 1 w) (ha : l[i]? = some a) (hf : f + 1 ≤ E.sz)
    (he : splice (E.enc a) f [u] = E.enc a') (h : ∀ w', Own X w0 w' (L.set j (vec E v (l.set i a'))) → Keep (vec E v l).fp w w' → Φ undef w') :
    Sp P all n ρ ⟨d', .store T x y, ty, pos, af, g⟩ w Φ := by
  have hcs : u.cells = #[u] := by cases u <;> first | rfl | simp [Value.oneCell'] at h1
  exact s_storev S j hj hg hat hx (vs := [u]) (by rw [hy, hcs]) hs (by simpa using h1) ha hf he h
theorem s_storevi {z : Int} (S : Own X w0 w L) (j : Nat) (hj : L[j]? = some (vec E v l)) (hg : gOk all n ρ g = true) (hat : At E v i ⟨b', o, none⟩)
    (hx : ev n ρ x = .pointer (some ⟨b', o + f, none⟩)) (hy : ev n ρ y = .int .i64 z) (hs : ∀ w, (sizeOf T).run P w = .ok 1 w) (ha : l[i]? = some a) (hf : f + 1 ≤ E.sz)
    (he : splice (E.enc a) f [.int .i64 z] = E.enc a') (h : ∀ w', Own X w0 w' (L.set j (vec E v (l.set i a'))) → Keep (vec E v l).fp w w' → Φ undef w') :
    Sp P all n ρ ⟨d', .store T x y, ty, pos, af, g⟩ w Φ := s_storev1 S j hj hg hat hx hy rfl hs ha hf he h
theorem s_storevb {t : Bool} (S : Own X w0 w L) (j : Nat) (hj : L[j]? = some (vec E v l)) (hg : gOk all n ρ g = true) (hat : At E v i ⟨b', o, none⟩)
    (hx : ev n ρ x = .pointer (some ⟨b', o + f, none⟩)) (hy : ev n ρ y = .bool t) (hs : ∀ w, (sizeOf T).run P w = .ok 1 w) (ha : l[i]? = some a) (hf : f + 1 ≤ E.sz)
    (he : splice (E.enc a) f [.bool t] = E.enc a') (h : ∀ w', Own X w0 w' (L.set j (vec E v (l.set i a'))) → Keep (vec E v l).fp w w' → Φ undef w') :
    Sp P all n ρ ⟨d', .store T x y, ty, pos, af, g⟩ w Φ := s_storev1 S j hj hg hat hx hy rfl hs ha hf he h
theorem s_storeva {c : List Value} (S : Own X w0 w L) (j : Nat) (hj : L[j]? = some (vec E v l)) (hg : gOk all n ρ g = true) (hat : At E v i ⟨b', o, none⟩)
    (hx : ev n ρ x = .pointer (some ⟨b', o, none⟩)) (hy : ev n ρ y = .agg c.toArray) (hs : ∀ w, (sizeOf T).run P w = .ok E.sz w) (ha : l[i]? = some a) (he : c = E.enc a')
    (h : ∀ w', Own X w0 w' (L.set j (vec E v (l.set i a'))) → Keep (vec E v l).fp w w' → Φ undef w') :
    Sp P all n ρ ⟨d', .store T x y, ty, pos, af, g⟩ w Φ := by
  subst he
  exact s_storev (f := 0) S j hj hg hat hx (vs := E.enc a') (by rw [hy]; rfl) (by rw [E.len]; exact hs) (E.one a') ha (by rw [E.len]; omega) (splice_all (by rw [E.len, E.len])) h
end
end Go.Vk

/- The proof engine, part 16: copying, views, conversions. Generic over the program. -/
namespace Go.Vk
open Go

section
variable {P : Program} {ev : Operand → Value} {w : World} {ty : TypeId} {x y : Operand} {S T : TypeId} {a : Int}
theorem x_convert {s k : IntKind} {u : TypeDesc} (hx : ev x = .int s a) (hs : ∀ w, (underlying S).run P w = .ok u w) (hd : ∀ w, (underlying T).run P w = .ok (.int k) w) (hr : k.wrap a = a) : X P ev (.convert S T x) ty w (.int k a) w :=
  ⟨nofun, fun _ _ _ _ => by
    simp only [execOp, hx, convert, Sem.run_bind, hs, hd, Result.andThen_ok]
    cases u <;> simp [Conv.intToInt, hr, go_sem]⟩
theorem x_min {k : IntKind} {c : Int} {ts : Array TypeId} (hx : ev x = .int k a) (hy : ev y = .int k c) : X P ev (.call ⟨.builtin .min, #[x, y], ts⟩) ty w (.int k (min a c)) w :=
  ⟨nofun, fun _ _ _ _ => by
    have h : min a c = if c < a then c else a := by simp only [Int.min_def]; split <;> split <;> omega
    simp only [execOp, resolve, Sem.run_bind, Sem.run_pure, Result.andThen_ok, invoke, builtin, List.map_toArray, List.map_cons, List.map_nil, hx, hy, Builtin.min_, List.foldlM_cons, List.foldlM_nil]
    simp [Builtin.min2, h, go_sem]⟩
theorem u64_in {a : Int} (h : 0 ≤ a ∧ a < 18446744073709551616) : IntKind.u64.wrap a = a := IntWalk.u64_in a ⟨h.1, by omega⟩
theorem i64_in {a : Int} (h : -9223372036854775808 ≤ a ∧ a ≤ 9223372036854775807) : IntKind.i64.wrap a = a := IntWalk.i64_in _ h
end

theorem tail_self {α : Type} {E : Elt α} {v : Value} {l : List α} {w : World} (h : (vec E v l).ok w) : Tail E v v 0 := by
  rcases h with ⟨hv, _⟩ | ⟨b, cap, c, hv, h1, _⟩
  · exact .inl ⟨hv, hv, rfl⟩
  · exact .inr ⟨b, l.length, cap, hv, Nat.zero_le _, h1, by rw [hv]; simp⟩

section
variable {P : Program} {b : Frame} {cs : List Frame} {fin : Machine → Prop} {n : Nat} {all : Array Oper} {rest : List Oper} {k : List Item} {ρ : Env} {ds : List Deferred} {w : World} {X : Nat → Prop} {w0 : World} {L : List Rsc}
  {d : Nat} {d' : Option Nat} {ty : TypeId} {pos : String} {af : Array Edge} {g : Option (Nat × Bool)} {T T' : TypeId} {x y : Operand} {α : Type} {E : Elt α} {v vd vs : Value} {l xs : List α} {p : Nat}

theorem flatMap_drop (E : Elt α) : ∀ (l : List α) (q : Nat), (l.drop q).flatMap E.enc = (l.flatMap E.enc).drop (q * E.sz) := by
  intro l
  induction l with
  | nil => intro q; simp
  | cons a l ih =>
    intro q
    cases q with
    | zero => simp
    | succ q =>
      have h1 : (q + 1) * E.sz = E.sz + q * E.sz := by rw [Nat.add_mul]; omega
      have hd : (E.enc a).drop (E.sz + q * E.sz) = [] := List.drop_of_length_le (by rw [E.len]; omega)
      have h2 : E.sz + q * E.sz - E.sz = q * E.sz := by omega
      rw [List.drop_succ_cons, ih, h1, List.flatMap_cons, List.drop_append, hd, E.len, List.nil_append, h2]

/-- 'copy' into a slice of one's own whose elements have one cell each. -/
theorem x_copy {ev : Operand → Value} (S : Own X w0 w L) (j : Nat) (hj : L[j]? = some (vec E v l)) (ht : Tail E v vd p) (hx : ev x = vd) (hy : ev y = vs) (hr : Rd E w vs xs)
    (hu : P.underlying T = some (.slice E.T)) (hs : (P.info? E.T).map (·.size) = some 1) (hsz : E.sz = 1) :
    ∃ w', Vk.X P ev (.call ⟨.builtin .copy, #[x, y], #[T, T']⟩) ty w (.int .i64 (min xs.length (l.length - p) : Nat)) w' ∧
      Own X w0 w' (L.set j (vec E v (l.take p ++ (xs.take (min xs.length (l.length - p)) ++ l.drop (p + min xs.length (l.length - p)))))) ∧ Keep (vec E v l).fp w w' := by
  have hrun : ∀ (m : Nat) (w' : World), (Builtin.copy_ #[T, T'] ty #[vd, vs]).run P w = .ok (goInt m) w' → Vk.X P ev (.call ⟨.builtin .copy, #[x, y], #[T, T']⟩) ty w (.int .i64 m) w' := by
    intro m w' h
    refine ⟨nofun, fun _ _ _ _ => ?_⟩
    simp only [execOp, resolve, Sem.run_bind, Sem.run_pure, Result.andThen_ok, invoke, builtin, List.map_toArray, List.map_cons, List.map_nil, hx, hy, h]
    rfl
  obtain ⟨i, hi, hi1⟩ : ∃ i, P.info? E.T = some i ∧ i.size = 1 := by
    cases hq : P.info? E.T with
    | none => simp [hq] at hs
    | some i => exact ⟨i, rfl, by simpa [hq] using hs⟩
  obtain ⟨a, scap, rfl, hsc, hrow⟩ := hr
  have hflat : ∀ (m : Nat), m ≤ xs.length → ((xs.take m).flatMap E.enc).length = m := by
    intro m hm; rw [flatMap_enc_length, List.length_take, hsz]; omega
  have hzero : min xs.length (l.length - p) = 0 → (∃ b c, vd = .slice b (l.length - p) c) →
      (Builtin.copy_ #[T, T'] ty #[vd, .slice a xs.length scap]).run P w = .ok (goInt 0) w := by
    rintro h0 ⟨bb, cc, rfl⟩
    have h0' : Nat.min xs.length (l.length - p) = 0 := h0
    cases a with
    | none => cases bb <;> simp [Builtin.copy_, run_underlying hu, Builtin.lenOf, Builtin.firstCells, sizeOf, typeInfo, hi, storeCells, h0', go_sem]
    | some a => cases bb <;> simp [Builtin.copy_, run_underlying hu, Builtin.lenOf, Builtin.firstCells, sizeOf, typeInfo, hi, storeCells, h0', loadCells, go_sem]
  have hsame : min xs.length (l.length - p) = 0 → l.take p ++ (xs.take (min xs.length (l.length - p)) ++ l.drop (p + min xs.length (l.length - p))) = l := by
    intro h0; rw [h0]; simp
  rcases ht with ⟨hv, rfl, rfl⟩ | ⟨b1, len, cap1, hv, h1, h2, rfl⟩
  · rcases S.at j hj with ⟨_, rfl⟩ | ⟨b', cap, c, hv2, _⟩
    · have h0 : min xs.length (([] : List α).length - 0) = 0 := by simp
      refine ⟨w, hrun _ _ (by rw [h0]; exact hzero h0 ⟨none, 0, rfl⟩), ?_, Keep.refl _ _⟩
      rw [hsame h0]
      exact S.as j hj (S.at j hj) fun _ h => h
    · rw [hv] at hv2; cases hv2
  · rcases S.at j hj with ⟨hv2, _⟩ | ⟨b', cap, c, hv2, g1, g2, g3, g4, hb⟩
    · rw [hv] at hv2; cases hv2
    · have hv0 := hv2
      rw [hv] at hv2
      simp only [Value.slice.injEq, Option.some.injEq, Addr.mk.injEq, and_true] at hv2
      obtain ⟨rfl, rfl, rfl⟩ := hv2
      by_cases h0 : min xs.length (l.length - p) = 0
      · refine ⟨w, hrun _ _ (by rw [h0]; exact hzero h0 ⟨_, _, rfl⟩), ?_, Keep.refl _ _⟩
        rw [hsame h0]
        exact S.as j hj (S.at j hj) fun _ h => h
      · obtain ⟨q, hq⟩ : ∃ q, q = min xs.length (l.length - p) := ⟨_, rfl⟩
        rw [← hq] at h0 ⊢
        have hql : q ≤ xs.length := by omega
        have hqp : p + q ≤ l.length := by omega
        have hne : cap1 ≠ p := by omega
        have hc1 : c.length = cap1 := by rw [g3, hsz, Nat.mul_one]
        have h4 : c.take l.length = l.flatMap E.enc := by rw [← g4, hsz, Nat.mul_one]
        obtain ⟨x0, hx0⟩ : ∃ x0, xs[0]? = some x0 := ⟨_, List.getElem?_eq_getElem (by omega)⟩
        obtain ⟨sb, so, rfl, _⟩ := hrow 0 x0 hx0
        have hcs := run_copy_row (P := P) w T T' ty E.T b1 p (l.length - p) (cap1 - p) ⟨sb, so, none⟩ xs.length scap c.toArray E.T ((xs.take q).flatMap E.enc) hu hs hb (by rw [hflat q hql, hq])
          (fun jj u hjj => by
            have hlt : jj < q := by have := (List.getElem?_eq_some_iff.1 hjj).1; rw [hflat q hql] at this; exact this
            obtain ⟨xj, hxj⟩ : ∃ xj, xs[jj]? = some xj := ⟨_, List.getElem?_eq_getElem (by omega)⟩
            obtain ⟨b2, o2, hb2, hr2⟩ := hrow jj xj hxj
            simp only [Option.some.injEq, Addr.mk.injEq, and_true] at hb2
            obtain ⟨rfl, rfl⟩ := hb2
            have hlen1 : (E.enc xj).length = 1 := by rw [E.len, hsz]
            obtain ⟨z, hz⟩ := List.length_eq_one_iff.1 hlen1
            have h5 : (xs.take q)[jj]? = some xj := by rw [List.getElem?_take, if_pos hlt]; exact hxj
            have h6 := flatMap_enc_get E (xs.take q) jj xj 0 z h5 (by rw [hz]; rfl)
            rw [hsz, Nat.mul_one, Nat.add_zero, hjj] at h6
            have h6' : z = u := Option.some.inj h6.symm
            subst h6'
            have h7 := hr2 0 z (by rw [hz]; rfl)
            rw [hsz, Nat.mul_one, Nat.add_zero] at h7
            rw [addr_add]; exact h7)
          (by rw [hflat q hql, List.size_toArray]; omega) (fun u hu' => by obtain ⟨zz, _, hzz⟩ := List.mem_flatMap.1 hu'; exact E.one zz u hzz)
        rw [hflat q hql] at hcs
        have hlen : (l.take p ++ (xs.take q ++ l.drop (p + q))).length = l.length := by simp; omega
        refine ⟨w.setRow b1 (c.take p ++ (xs.take q).flatMap E.enc ++ c.drop (p + q)).toArray, hrun _ _ ?_, ?_, (Keep.setRow w _).mono fun bb _ e => ⟨l.length, cap1, by subst e; exact hv0⟩⟩
        · rw [if_neg hne, hsz, Nat.mul_one]
          exact hcs
        · refine S.turn j hj ((Keep.setRow w _).mono fun bb _ e => ⟨l.length, cap1, by subst e; exact hv0⟩) (fun _ _ h => h) ?_ (fun _ h => .inl h)
          refine .inr ⟨b1, cap1, _, by rw [hlen]; exact hv0, by rw [hlen]; exact g1, g2, ?_, ?_, setRow_heap w b1 _ _ E.T _ hb⟩
          · simp [hsz, hflat q hql]; omega
          · rw [hlen, hsz, Nat.mul_one, List.flatMap_append, List.flatMap_append, flatMap_take E l p, flatMap_drop E l (p + q), hsz, Nat.mul_one, Nat.mul_one, ← h4, List.take_take, Nat.min_eq_left h1]
            have hA : (c.take p ++ (xs.take q).flatMap E.enc).length = p + q := by rw [List.length_append, hflat q hql, List.length_take]; omega
            rw [List.take_append, List.take_of_length_le (by rw [hA]; exact hqp), hA, List.append_assoc, List.drop_take]

theorem l_copy (S : Own X w0 w L) (j : Nat) (hj : L[j]? = some (vec E v l)) (hg : gOk all n ρ g = true) (ht : Tail E v vd p) (hx : ev n ρ x = vd) (hy : ev n ρ y = vs) (hr : Rd E w vs xs)
    (hu : P.underlying T = some (.slice E.T)) (hs : (P.info? E.T).map (·.size) = some 1) (hsz : E.sz = 1)
    (h : ∀ w', Own X w0 w' (L.set j (vec E v (l.take p ++ (xs.take (min xs.length (l.length - p)) ++ l.drop (p + min xs.length (l.length - p)))))) → Keep (vec E v l).fp w w' →
      RunL P b cs fin n all rest k (upd ρ d (.int .i64 (min xs.length (l.length - p) : Nat))) ds w') :
    RunL P b cs fin n all (⟨some d, .call ⟨.builtin .copy, #[x, y], #[T, T']⟩, ty, pos, af, g⟩ :: rest) k ρ ds w := by
  obtain ⟨w', h1, h2, h3⟩ := x_copy (T' := T') (ty := ty) S j hj ht hx hy hr hu hs hsz
  exact l_x hg h1 (h w' h2 h3)
theorem s_copy {Φ : Value → World → Prop} (S : Own X w0 w L) (j : Nat) (hj : L[j]? = some (vec E v l)) (hg : gOk all n ρ g = true) (ht : Tail E v vd p) (hx : ev n ρ x = vd) (hy : ev n ρ y = vs) (hr : Rd E w vs xs)
    (hu : P.underlying T = some (.slice E.T)) (hs : (P.info? E.T).map (·.size) = some 1) (hsz : E.sz = 1)
    (h : ∀ w', Own X w0 w' (L.set j (vec E v (l.take p ++ (xs.take (min xs.length (l.length - p)) ++ l.drop (p + min xs.length (l.length - p)))))) → Keep (vec E v l).fp w w' →
      Φ (.int .i64 (min xs.length (l.length - p) : Nat)) w') :
    Sp P all n ρ ⟨d', .call ⟨.builtin .copy, #[x, y], #[T, T']⟩, ty, pos, af, g⟩ w Φ := by
  obtain ⟨w', h1, h2, h3⟩ := x_copy (T' := T') (ty := ty) S j hj ht hx hy hr hu hs hsz
  exact s_x hg h1 (h w' h2 h3)

/-- The end of a slice of one's own, the value alone. -/
theorem x_tailv {ev : Operand → Value} {z : Operand} {q : Int} (hok : (vec E v l).ok w) (hx : ev x = v) (hz : ev z = .int .i64 q) (hu : ∀ w, (underlying T).run P w = .ok (.slice E.T) w) (hs : ∀ w, (sizeOf E.T).run P w = .ok E.sz w) (hq : 0 ≤ q ∧ q ≤ l.length) :
    ∃ v', Tail E v v' q.toNat ∧ ∀ w1, Vk.X P ev (.slice T x (some z) none none) ty w1 v' w1 := by
  rcases hok with ⟨hv, rfl⟩ | ⟨b', cap, c, hv, h1, h2, h3, h4, hb⟩
  · have hx2 := hx.trans hv
    have hq0 : q = 0 := by simp at hq; omega
    subst hq0
    exact ⟨_, .inl ⟨hv, by simp, rfl⟩, fun w1 => x_cut (w := w1) hx2 hu hs (p := 0) (q := 0) (by simp [hz]) rfl (by simp) (Nat.le_refl _)⟩
  · have hx2 := hx.trans hv
    refine ⟨_, .inr ⟨b', l.length, cap, hv, by omega, h1, ?_⟩, fun w1 => x_cut (w := w1) hx2 hu hs (p := q) (q := l.length) (by simp [hz]) rfl (by omega) h1⟩
    split
    · rename_i e; simp [e]
    · simp [addr_add]
/-- The head of a slice, to be read. -/
theorem x_headv {ev : Operand → Value} {z : Operand} {q : Int} (hr : Rd E w v l) (hx : ev x = v) (hz : ev z = .int .i64 q) (hu : ∀ w, (underlying T).run P w = .ok (.slice E.T) w) (hs : ∀ w, (sizeOf E.T).run P w = .ok E.sz w) (hq : 0 ≤ q ∧ q ≤ l.length) :
    ∃ v', Rd E w v' (l.take q.toNat) ∧ ∀ w1, Vk.X P ev (.slice T x none (some z) none) ty w1 v' w1 := by
  obtain ⟨a, cap, rfl, hc, hrow⟩ := hr
  have hlen : (l.take q.toNat).length = q.toNat := by rw [List.length_take]; omega
  refine ⟨_, ?_, fun w1 => x_cut (w := w1) hx hu hs (p := 0) (q := q) rfl (by simp [hz]) (by omega) hc⟩
  refine ⟨_, _, by rw [hlen, Int.toNat_zero, Nat.sub_zero], by rw [hlen]; simp; omega, fun i e hi => ?_⟩
  rw [List.getElem?_take] at hi
  split at hi
  · obtain ⟨b', o', rfl, hr⟩ := hrow i e hi
    refine ⟨b', o', ?_, hr⟩
    split
    · rfl
    · simp [addr_add]
  · cases hi
end

section
variable {P : Program} {b : Frame} {cs : List Frame} {fin : Machine → Prop} {n : Nat} {k : List Item} {ρ : Env} {ds : List Deferred} {w : World} {ops : Array Oper} {m : Nat} {Y : Nat → Prop} {listed listed' : Array Bool}
  {d : Nat} {ty : TypeId} {pos : String} {af : Array Edge} {g : Option (Nat × Bool)} {v : Value} {T : TypeId} {x z : Operand} {α : Type} {E : Elt α} {l : List α} {q : Int}
theorem e_tail (i : Nat) (hok : drawOk ops m = true) (ho : ops[i]? = some ⟨some d, .slice T x (some z) none none, ty, pos, af, g⟩) (him : Nat.blt i m = true) (hr : rdy ops listed i = true)
    (hl : listed.setIfInBounds i true = listed') (hg : gOk ops n ρ g = true) (hv : (vec E v l).ok w) (hx : ev n ρ x = v) (hz : ev n ρ z = .int .i64 q)
    (hu : ∀ w, (underlying T).run P w = .ok (.slice E.T) w) (hs : ∀ w, (sizeOf E.T).run P w = .ok E.sz w) (hq : 0 ≤ q ∧ q ≤ l.length)
    (h : ∀ v', Tail E v v' q.toNat → RE P b cs fin n ops m (Keep Y) k ds listed' (upd ρ d v') w) : RE P b cs fin n ops m (Keep Y) k ds listed ρ w := by
  obtain ⟨v', h1, h2⟩ := x_tailv (P := P) (ty := ty) hv hx hz hu hs hq
  exact e_exact i _ hok ho him hr hl (ex_x hg fun w1 _ => h2 w1) (h v' h1)
theorem e_head (i : Nat) (hok : drawOk ops m = true) (ho : ops[i]? = some ⟨some d, .slice T x none (some z) none, ty, pos, af, g⟩) (him : Nat.blt i m = true) (hr : rdy ops listed i = true)
    (hl : listed.setIfInBounds i true = listed') (hg : gOk ops n ρ g = true) (hv : Rd E w v l) (hx : ev n ρ x = v) (hz : ev n ρ z = .int .i64 q)
    (hu : ∀ w, (underlying T).run P w = .ok (.slice E.T) w) (hs : ∀ w, (sizeOf E.T).run P w = .ok E.sz w) (hq : 0 ≤ q ∧ q ≤ l.length)
    (h : ∀ v', Rd E w v' (l.take q.toNat) → RE P b cs fin n ops m (Keep Y) k ds listed' (upd ρ d v') w) : RE P b cs fin n ops m (Keep Y) k ds listed ρ w := by
  obtain ⟨v', h1, h2⟩ := x_headv (P := P) (ty := ty) hv hx hz hu hs hq
  exact e_exact i _ hok ho him hr hl (ex_x hg fun w1 _ => h2 w1) (h v' h1)
end

/-- A list of c numbers whose first i are z already. -/
def rp (z : Int) (c i : Nat) : List Int := List.replicate i z ++ List.replicate (c - i) 0
theorem rp_len {z : Int} {c i : Nat} (h : i ≤ c) : (rp z c i).length = c := by simp [rp]; omega
theorem rp_full {z : Int} {c : Nat} : rp z c c = List.replicate c z := by simp [rp]
theorem rp_take {z : Int} {c i : Nat} : (rp z c i).take i = List.replicate i z := by
  rw [rp, List.take_left' (by simp)]
theorem rp_start {z : Int} {c : Nat} : (List.replicate c 0).take 0 ++ ([z].take (min [z].length ((List.replicate c (0:Int)).length - 0)) ++ (List.replicate c 0).drop (0 + min [z].length ((List.replicate c (0:Int)).length - 0))) = rp z c (min 1 c) := by
  cases c with
  | zero => simp [rp]
  | succ c =>
    have e : min 1 (c + 1) = 1 := by omega
    simp [rp, e]
theorem rp_copy {z : Int} {c i : Nat} (h : i ≤ c) : (rp z c i).take i ++ (((rp z c i).take i).take (min ((rp z c i).take i).length ((rp z c i).length - i)) ++ (rp z c i).drop (i + min ((rp z c i).take i).length ((rp z c i).length - i))) =
    rp z c (i + min ((rp z c i).take i).length ((rp z c i).length - i)) := by
  rw [rp_take, rp_len h, List.length_replicate, List.take_replicate]
  have hq : min i (c - i) ≤ c - i := by omega
  obtain ⟨q, hq'⟩ : ∃ q, q = min i (c - i) := ⟨_, rfl⟩
  rw [← hq'] at hq ⊢
  have e1 : min q i = q := by omega
  rw [e1, rp, rp, ← List.append_assoc, List.replicate_append_replicate]
  congr 1
  rw [List.drop_append, List.drop_of_length_le (by simp), List.nil_append, List.length_replicate, List.drop_replicate]
  congr 1
  omega

/-- The whole of an array as a slice. -/
theorem x_sliceall {P : Program} {ev : Operand → Value} {w : World} {T ty e : TypeId} {x : Operand} {b o n s : Nat} (hx : ev x = .pointer (some ⟨b, o, none⟩)) (hu : ∀ w, (underlying T).run P w = .ok (.array n e) w) (hs : ∀ w, (sizeOf e).run P w = .ok s w) :
    X P ev (.slice T x none none none) ty w (.slice (some ⟨b, o, none⟩) n n) w := by
  refine ⟨nofun, fun _ _ _ _ => ?_⟩
  have ha : (⟨b, o, none⟩ : Addr).add 0 = ⟨b, o, none⟩ := rfl
  simp only [execOp, Instr.sliceAt, Option.map_none, hx, Sem.run_bind, hu, Result.andThen_ok, Instr.sureAddr, Sem.run_pure, Instr.sliceBounds, hs, Nat.zero_mul, ha, Nat.sub_zero]
  split <;> rfl

theorem foldl_max_pos : ∀ (l : List Int) (a : Int), 0 < l.foldl max a ↔ 0 < a ∨ ∃ z ∈ l, 0 < z := by
  intro l
  induction l with
  | nil => intro a; simp
  | cons b l ih =>
    intro a
    rw [List.foldl_cons, ih]
    constructor
    · rintro (h | ⟨z, hz, h⟩)
      · by_cases ha : 0 < a
        · exact .inl ha
        · exact .inr ⟨b, List.mem_cons_self .., by omega⟩
      · exact .inr ⟨z, List.mem_cons_of_mem _ hz, h⟩
    · rintro (h | ⟨z, hz, h⟩)
      · exact .inl (by omega)
      · rcases List.mem_cons.1 hz with rfl | hz
        · exact .inl (by omega)
        · exact .inr ⟨z, hz, h⟩
theorem maxOf_pos {zs : List Int} (h : zs ≠ []) : 0 < Lib.maxOf zs ↔ ∃ z ∈ zs, 0 < z := by
  unfold Lib.maxOf
  rw [foldl_max_pos]
  cases zs with
  | nil => exact absurd rfl h
  | cons a l =>
    constructor
    · rintro (h | h)
      · exact ⟨a, List.mem_cons_self .., by simpa using h⟩
      · exact h
    · intro h; exact .inr h
end Go.Vk

/- The proof engine, part 17: regions that draw their order and write what they have made. Generic over the program. -/
namespace Go.Vk
open Go

/-- The blocks made since. -/
def yng (w : World) : Nat → Prop := fun b => w.heap.size ≤ b

section
variable {X : Nat → Prop} {w0 w w1 w2 : World} {L : List Rsc}
theorem Own.yng (S : Own X w0 w L) (h : Keep (Vk.yng w) w w1) : Own X w0 w1 L := by
  have h' : Le w w1 := ⟨h.os, h.tape, h.output, h.size, fun b hb _ => h.block b hb (Nat.not_le_of_gt hb)⟩
  exact S.step h'
theorem yng_blk {b : Nat} (h : Keep (Vk.yng w) w w1) (hb : w1.heap.size ≤ b) {u u' : World} (hk : Keep (· = b) u u') : Keep (Vk.yng w) u u' :=
  hk.mono fun c _ e => by subst e; exact Nat.le_trans h.size hb
end

section
variable {P : Program} {n : Nat} {all : Array Oper} {ρ : Env} {w : World} {d : Nat} {ty : TypeId} {pos : String} {af : Array Edge} {g : Option (Nat × Bool)} {T : TypeId} {x : Operand} {Φ : Value → World → Prop}
theorem s_allocY {X : Nat → Prop} {w0 : World} {L : List Rsc} {c : List Value} {z : Value} (S : Own X w0 w L) (hg : gOk all n ρ g = true) (hz : ∀ w, (zeroValue T).run P w = .ok z w) (hx : z.cells = c.toArray)
    (h : ∀ b' w', Own X w0 w' (L ++ [blk b' c T]) → Le w w' → w.heap.size ≤ b' → Φ (.pointer (some ⟨b', 0, none⟩)) w') :
    Sp P all n ρ ⟨some d, .alloc T, ty, pos, af, g⟩ w Φ := by
  refine s_x hg (v := .pointer (some ⟨w.heap.size, 0, none⟩)) (w' := w.alloc (.cells c.toArray T (0, 0))) ⟨nofun, fun _ _ _ _ => ?_⟩ (h _ _ (S.alloc c T) (Le.alloc_cells _ _ _) (Nat.le_refl _))
  simp only [execOp, Instr.alloc, Sem.run_bind, hz, run_newVar, Result.andThen_ok, Sem.run_pure, hx]
end
end Go.Vk

/- The proof engine, part 18: what is no longer needed is forgotten. Generic over the program. -/
namespace Go.Vk
open Go
section
variable {P : Program} {b : Frame} {cs : List Frame} {fin : Machine → Prop} {n : Nat} {k : List Item} {ρ : Env} {ds : List Deferred} {w : World}
/-- Of the slots these alone are known from here on. -/
theorem r_forget (sl : List (Nat × Value)) (ha : Agree ρ sl) (h : ∀ ρ, Run P b cs fin n k (upds ρ sl) ds w) : Run P b cs fin n k ρ ds w := by
  have := h ρ
  rwa [upds_agree ha] at this
end
end Go.Vk
