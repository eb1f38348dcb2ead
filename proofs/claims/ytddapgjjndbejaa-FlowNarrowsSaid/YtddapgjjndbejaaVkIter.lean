/- The proof engine, part 9: ranges over functions; marks among the deferred calls. Generic over the program. -/
import Derived.Test.YtddapgjjndbejaaVkOps3
import Derived.RangeFuncLeaves
namespace Go.Vk
open Go

/-! ### blocks that are no cells -/

def noCells : Obj → Bool
  | .cells .. => false
  | _ => true

def obj (b : Nat) (o : Obj) : Rsc := ⟨(· = b), fun w => w.heap[b]? = some o, fun h hb => (h b rfl).trans hb⟩

def put (w : World) (b : Nat) (o : Obj) : World := { w with heap := w.heap.setIfInBounds b o }

theorem Le.alloc_obj (w : World) (o : Obj) : Le w (w.alloc o) :=
  ⟨rfl, rfl, rfl, by simp, fun b hb _ => heap_alloc_old w _ b hb⟩

theorem put_same {w : World} {b : Nat} {o o' : Obj} (h : w.heap[b]? = some o) : (put w b o').heap[b]? = some o' := by
  have hlt := (Array.getElem?_eq_some_iff.1 h).1
  simp [put, hlt]
theorem put_other {w : World} {b i : Nat} {o : Obj} (h : i ≠ b) : (put w b o).heap[i]? = w.heap[i]? := by
  simp [put, Array.getElem?_setIfInBounds_ne (Ne.symm h)]

theorem Keep.put (w : World) (b : Nat) (o' : Obj) : Keep (· = b) w (put w b o') :=
  ⟨rfl, rfl, rfl, by simp [Vk.put], fun i _ hi => put_other hi⟩

section own
variable {X : Nat → Prop} {w0 w w' : World} {L : List Rsc} {b : Nat} {o o' : Obj}
theorem Own.obj (S : Own X w0 w L) (j : Nat) (hj : L[j]? = some (Vk.obj b o)) : w.heap[b]? = some o := S.ok j _ hj
theorem Own.put (S : Own X w0 w L) (j : Nat) (hj : L[j]? = some (Vk.obj b o)) (o' : Obj) : Own X w0 (Vk.put w b o') (L.set j (Vk.obj b o')) :=
  S.turn j hj (Keep.put w b o') (fun _ _ h => h) (put_same (S.obj j hj)) (fun _ h => .inl h)
theorem Own.allocObj (S : Own X w0 w L) (o : Obj) : Own X w0 (w.alloc o) (L ++ [Vk.obj w.heap.size o]) :=
  S.add (Le.alloc_obj w o) ⟨heap_alloc_new w o, fun b hb => by cases hb; simp⟩
end own

theorem run_getObj {P : Program} {w : World} {b : Nat} {o : Obj} (h : w.heap[b]? = some o) (ho : noCells o = true) : (getObj b).run P w = .ok o w := by
  simp only [getObj, Sem.run, h]
  cases o <;> first | rfl | simp [noCells] at ho
theorem run_setObj {P : Program} {w : World} {b : Nat} {o o' : Obj} (h : w.heap[b]? = some o) (ho : noCells o = true) : (setObj b o').run P w = .ok () (put w b o') := by
  simp only [setObj, Sem.run, h]
  cases o <;> first | rfl | simp [noCells] at ho
theorem run_getLoop {P : Program} {w : World} {l : Nat} {r : Loop} (h : w.heap[l]? = some (.loop r)) : (Instr.getLoop l).run P w = .ok r w := by
  simp only [Instr.getLoop, Sem.run_bind, run_getObj h rfl, Result.andThen_ok]
  rfl

/-- The record of a loop over a function. -/
def lrec (fn n : Nat) (ρ : Env) (ps : Array Tmp) (assign body : Code) (D : Nat) (st : LoopState) (pe : Option Code) : Loop :=
  { state := st, pending := pe, fn, tmps := (mkA n ρ []).tmps, params := ps, assign, body, defers := D }

def mark (D : Nat) : Deferred := { target := .collected D, args := #[] }

section
variable {P : Program} {b : Frame} {cs : List Frame} {fin : Machine → Prop} {n : Nat} {k : List Item} {ρ : Env} {ds : List Deferred} {w : World} {X : Nat → Prop} {w0 : World} {L : List Rsc}

/-- A range over a function, outside of every other one. -/
theorem r_rangeFunc {f : Operand} {ps : Array Tmp} {assign body : Code} {gf : FuncId} (first cap : List Value) (S : Own X w0 w L) (hro : b.roundOf = none) (hF : ev n ρ f = .func (.func gf) first.toArray cap.toArray)
    (he : ∀ args w, (callFunc gf args).run P w = .ok (.enter gf args) w)
    (h : ∀ D l w1, Own X w0 w1 (L ++ [obj D (.deferred (some [])), obj l (.loop (lrec b.fn n ρ ps assign body D .ready none))]) → Le w w1 →
      Cl P gf (first ++ .func (.yield l) #[] #[] :: cap).toArray w1 fun _ w2 => Run P b cs fin n (.endRangeFunc l :: k) ρ (mark D :: ds) w2) :
    Run P b cs fin n (.code (.rangeFunc f ps assign body) :: k) ρ ds w := by
  have S1 := S.allocObj (.deferred (some []))
  have S2 := S1.allocObj (.loop (lrec b.fn n ρ ps assign body w.heap.size .ready none))
  rw [List.append_assoc] at S2
  have hle : Le w ((w.alloc (.deferred (some []))).alloc (.loop (lrec b.fn n ρ ps assign body w.heap.size .ready none))) := (Le.alloc_obj w _).trans (Le.alloc_obj _ _)
  have hent : (Instr.enterLoop b.fn (mkA n ρ ds).tmps ps assign body b.roundOf).run P w =
      .ok ((w.alloc (.deferred (some []))).heap.size, [mark w.heap.size]) ((w.alloc (.deferred (some []))).alloc (.loop (lrec b.fn n ρ ps assign body w.heap.size .ready none))) := by
    rw [hro]
    rfl
  have hev : (mkA n ρ ds).eval f = .func (.func gf) first.toArray cap.toArray := by rw [mkA_eval]; exact hF
  obtain ⟨e, w2, fr, ⟨v, rfl, hR⟩, hs, _, hl⟩ := h _ _ _ S2 hle (b.atR (mkA n ρ (mark w.heap.size :: ds)) (.inRangeFunc (w.alloc (.deferred (some []))).heap.size :: k) :: cs)
  obtain ⟨W, hW⟩ : ∃ W, W = (w.alloc (.deferred (some []))).alloc (.loop (lrec b.fn n ρ ps assign body w.heap.size .ready none)) := ⟨_, rfl⟩
  rw [← hW] at hent hs
  have hres : (resolve (mkA n ρ ds).eval (rangeCall f (w.alloc (.deferred (some []))).heap.size) 0).run P W = .ok { target := .fn (.func gf) cap.toArray, args := first.toArray ++ #[.func (.yield (w.alloc (.deferred (some []))).heap.size) #[] #[]] } W := by
    have hc : (#[Operand.const (.func (.yield (w.alloc (.deferred (some []))).heap.size) #[] #[])]).map (mkA n ρ ds).eval = #[.func (.yield (w.alloc (.deferred (some []))).heap.size) #[] #[]] := by simp [Act.eval]
    change (Deferred.ofValue ((mkA n ρ ds).eval f) ((#[Operand.const (.func (.yield (w.alloc (.deferred (some []))).heap.size) #[] #[])]).map (mkA n ρ ds).eval)).run P W = _
    rw [hev, hc]
    simp only [Deferred.ofValue, Sem.run_pure]
  have hinv : (invoke (.fn (.func gf) cap.toArray) (first.toArray ++ #[.func (.yield (w.alloc (.deferred (some []))).heap.size) #[] #[]])).run P W = .ok (.enter gf (first.toArray ++ #[.func (.yield (w.alloc (.deferred (some []))).heap.size) #[] #[]] ++ cap.toArray)) W := by
    simp only [invoke, he]
  have hstep := stepR_rangeFunc (P := P) (b := b) (a := mkA n ρ ds) (k := k) (cs := cs) (w := w) hent hres hinv
  obtain ⟨m, hm, hf⟩ := hR
  refine ⟨m, .head hstep ?_, hf⟩
  have ea : (first.toArray ++ #[.func (.yield (w.alloc (.deferred (some []))).heap.size) #[] #[]] ++ cap.toArray : Array Value) = (first ++ Value.func (.yield (w.alloc (.deferred (some []))).heap.size) #[] #[] :: cap).toArray := by simp
  rw [ea]
  refine Steps.trans hs (.head (step_leave_returned hl) ?_)
  rw [finish_atR_inRangeFunc]
  exact hm

/-- Behind the function that was ranged over. -/
theorem r_endRange {l : Nat} {rec : Loop} (S : Own X w0 w L) (j : Nat) (hj : L[j]? = some (obj l (.loop rec))) (hs : (rec.state == LoopState.busy) = false)
    (h : ∀ w', Own X w0 w' (L.set j (obj l (.loop { rec with state := .exhausted }))) → Keep (· = l) w w' → Run P b cs fin n ((rec.pending.map Item.code).toList ++ k) ρ ds w') :
    Run P b cs fin n (.endRangeFunc l :: k) ρ ds w := by
  have ho := S.obj j hj
  refine (h _ (S.put j hj _) (Keep.put _ _ _)).of_step (stepR_endRangeFunc ?_)
  simp only [Instr.endLoop, Sem.run_bind, run_getLoop ho, Result.andThen_ok]
  rw [hs]
  simp only [Bool.false_eq_true, if_false, Sem.run_bind, run_setObj ho rfl, Result.andThen_ok, Sem.run_pure]

/-! ### rounds -/

def frameR (f l : Nat) : Frame := { (default : Frame) with fn := f, kind := .normal, roundOf := some l }

def finRound (c : Frame) (cs : List Frame) (R : Value → World → Prop) : Machine → Prop := fun m => ∃ v w', m = lone (c.finish v) cs w' ∧ R v w'

/-- What a call of yield does. -/
def Yl (P : Program) (l : Nat) (args : Array Value) (w : World) (R : Value → World → Prop) : Prop :=
  ∃ fn tmps assign body, (Instr.yield l args).run P w = .ok (.round l fn tmps assign body) w ∧ ∀ c cs, ∃ v w', R v w' ∧ Steps P (lone (Frame.round l fn tmps assign body .normal) (c :: cs) w) (lone (c.finish v) cs w')

theorem Yl.mono {l : Nat} {args : Array Value} {R R' : Value → World → Prop} (h : Yl P l args w R) (hr : ∀ v w', R v w' → R' v w') : Yl P l args w R' := by
  obtain ⟨fn, tmps, assign, body, h1, h2⟩ := h
  exact ⟨fn, tmps, assign, body, h1, fun c cs => let ⟨v, w', r, s⟩ := h2 c cs; ⟨v, w', hr _ _ r, s⟩⟩

def setps (ρ : Env) : List (Nat × Value) → Env
  | [] => ρ
  | (t, v) :: l => setps (upd ρ t v) l

theorem foldl_setps : ∀ (l : List (Nat × Value)) (ρ : Env), l.foldl (fun (tmps : Array Value) (p : Nat × Value) => tmps.setIfInBounds p.1 p.2) (mkA n ρ []).tmps = (mkA n (setps ρ l) []).tmps := by
  intro l
  induction l with
  | nil => intro ρ; rfl
  | cons p l ih =>
    intro ρ
    obtain ⟨t, v⟩ := p
    have := congrArg Act.tmps (mkA_put n ρ [] t v)
    simp only [Act.put] at this
    simp only [List.foldl_cons, this, ih]
    rfl

/-- A call of yield: the round. -/
theorem yl_of_run {l fn D : Nat} {ps : List Tmp} {vals : List Value} {assign body : Code} {R : Value → World → Prop} (hl : w.heap[l]? = some (.loop (lrec fn n ρ ps.toArray assign body D .ready none))) (hn : vals.length = ps.length)
    (h : ∀ c cs, Run P (frameR fn l) (c :: cs) (finRound c cs R) n [.code assign, .beginRound, .code body] (setps ρ (ps.zip vals)) [] w) : Yl P l vals.toArray w R := by
  refine ⟨fn, (mkA n (setps ρ (ps.zip vals)) []).tmps, assign, body, ?_, fun c cs => ?_⟩
  · simp only [Instr.yield, Sem.run_bind, run_getLoop hl, Result.andThen_ok]
    have hsz : ¬ (vals.toArray.size ≠ (lrec fn n ρ ps.toArray assign body D .ready none).params.size) := by simp [lrec, hn]
    rw [if_neg hsz]
    simp only [Sem.run_pure, lrec]
    congr 2
    rw [← foldl_setps (ps.zip vals) ρ]
    have : (ps.toArray.zip vals.toArray) = (ps.zip vals).toArray := by simp
    rw [this, List.foldl_toArray]
  · obtain ⟨m, hs, v, w', rfl, hR⟩ := h c cs
    exact ⟨v, w', hR, hs⟩

variable {c : Frame} {R : Value → World → Prop} {fn l : Nat} {rec : Loop}

theorem r_beginRound (S : Own X w0 w L) (j : Nat) (hj : L[j]? = some (obj l (.loop rec))) (hs : rec.state = .ready)
    (h : ∀ w', Own X w0 w' (L.set j (obj l (.loop { rec with state := .busy }))) → Keep (· = l) w w' → Run P (frameR fn l) cs fin n k ρ ds w') :
    Run P (frameR fn l) cs fin n (.beginRound :: k) ρ ds w := by
  have ho := S.obj j hj
  refine (h _ (S.put j hj _) (Keep.put _ _ _)).of_step (stepR_beginRound (l := l) rfl ?_)
  simp only [Instr.beginRound, Sem.run_bind, run_getLoop ho, Result.andThen_ok, run_setObj ho rfl, hs]
  rfl

theorem run_endRound' {jump : Option Code} (ho : w.heap[l]? = some (.loop rec)) :
    (Instr.endRound l jump).run P w = .ok (.bool jump.isNone) (put w l (.loop { rec with state := if jump.isNone then .ready else .done, pending := jump })) := by
  simp only [Instr.endRound, Sem.run_bind, run_getLoop ho, Result.andThen_ok, run_setObj ho rfl, Sem.run_pure]

/-- A round's end: the next element is asked for. -/
theorem r_roundEnd (S : Own X w0 w L) (j : Nat) (hj : L[j]? = some (obj l (.loop rec)))
    (h : ∀ w', Own X w0 w' (L.set j (obj l (.loop { rec with state := .ready, pending := none }))) → R (.bool true) w') :
    Run P (frameR fn l) (c :: cs) (finRound c cs R) n [] ρ ds w := by
  have ho := S.obj j hj
  exact ⟨_, .one (stepR_round_end (l := l) rfl rfl (run_endRound' (jump := none) ho)), _, _, rfl, h _ (S.put j hj _)⟩
/-- A round that returns. -/
theorem r_roundRet (S : Own X w0 w L) (j : Nat) (hj : L[j]? = some (obj l (.loop rec)))
    (h : ∀ w', Own X w0 w' (L.set j (obj l (.loop { rec with state := .done, pending := some .ret }))) → R (.bool false) w') :
    Run P (frameR fn l) (c :: cs) (finRound c cs R) n (.code .ret :: k) ρ ds w := by
  have ho := S.obj j hj
  exact ⟨_, .one (stepR_round_ret (l := l) rfl rfl (run_endRound' (jump := some .ret) ho)), _, _, rfl, h _ (S.put j hj _)⟩
/-- A round that breaks out of the loop. -/
theorem r_roundExit {id : Nat} (S : Own X w0 w L) (j : Nat) (hj : L[j]? = some (obj l (.loop rec))) (hx : exitTo id k = none)
    (h : ∀ w', Own X w0 w' (L.set j (obj l (.loop { rec with state := .done, pending := some (.exit id) }))) → R (.bool false) w') :
    Run P (frameR fn l) (c :: cs) (finRound c cs R) n (.code (.exit id) :: k) ρ ds w := by
  have ho := S.obj j hj
  exact ⟨_, .one (stepR_round_exit (l := l) rfl rfl hx (run_endRound' (jump := some (.exit id)) ho)), _, _, rfl, h _ (S.put j hj _)⟩

/-- A call of yield. -/
theorem l_yield {all : Array Oper} {rest : List Oper} {d' : Option Nat} {ty : TypeId} {pos : String} {af : Array Edge} {g : Option (Nat × Bool)} {F : Operand} {as : List Operand} {ts : Array TypeId} (vals : List Value)
    (hg : gOk all n ρ g = true) (hF : ev n ρ F = .func (.yield l) #[] #[]) (ha : as.map (ev n ρ) = vals) (hy : Yl P l vals.toArray w R)
    (h : ∀ v w', R v w' → RunL P b cs fin n all rest k (updO d' v ρ) ds w') :
    RunL P b cs fin n all (⟨d', .call ⟨.value F, as.toArray, ts⟩, ty, pos, af, g⟩ :: rest) k ρ ds w := by
  intro is his
  obtain ⟨i, is', rfl, ho, his'⟩ := is_cons his
  obtain ⟨fn', tmps, assign, body, hyr, hrun⟩ := hy
  obtain ⟨v, w', hR, hs⟩ := hrun (b.atR (mkA n ρ ds) (.inRegion all (i :: is') :: k)) cs
  have hr : (execOp (ev n ρ) ⟨d', .call ⟨.value F, as.toArray, ts⟩, ty, pos, af, g⟩).run P w = .ok (.round l fn' tmps assign body) w := by
    simp only [execOp, resolve, hF, Deferred.ofValue, Sem.run_bind, Sem.run_pure, Result.andThen_ok, invoke, List.map_toArray, ha]
    simpa using hyr
  have hent : step P (lone (b.atR (mkA n ρ ds) (.inRegion all (i :: is') :: k)) cs w) = .next (lone (Frame.round l fn' tmps assign body .normal) (b.atR (mkA n ρ ds) (.inRegion all (i :: is') :: k) :: cs) w) := by
    refine step_lone_go ?_
    rw [stepGR_op ho (by rw [wanted_gOk]; exact hg), Oper.semAt_eq _ _ _ (fun _ hc => by cases hc), mkA_eval]
    simp [stepG.apply, hr, Frame.atR]
  obtain ⟨m, hm, hf⟩ := h v w' hR is' his'
  refine ⟨m, .head hent (Steps.trans hs ?_), hf⟩
  rw [finish_mkA ho]
  exact hm
end

/-! ### the way out of a function -/

/-- The frame is on its way out. -/
def Leave (P : Program) (b : Frame) (cs : List Frame) (fin : Machine → Prop) (n : Nat) (k : List Item) (ρ : Env) (ds : List Deferred) (w : World) : Prop :=
  ∃ m, Steps P (lone { b.atR (mkA n ρ ds) k with mode := .returning } cs w) m ∧ fin m

section
variable {P : Program} {b : Frame} {cs : List Frame} {fin : Machine → Prop} {n : Nat} {k : List Item} {ρ : Env} {ds : List Deferred} {w : World} {X : Nat → Prop} {w0 : World} {L : List Rsc} {f : FuncId} {R : Value → World → Prop}

theorem r_retL (hb : b.roundOf = none) (h : Leave P b cs fin n (.code .ret :: k) ρ ds w) : Run P b cs fin n (.code .ret :: k) ρ ds w :=
  let ⟨m, h1, h2⟩ := h; ⟨m, .head (stepR_ret hb) h1, h2⟩
theorem r_endL (hb : b.roundOf = none) (h : Leave P b cs fin n [] ρ ds w) : Run P b cs fin n [] ρ ds w :=
  let ⟨m, h1, h2⟩ := h; ⟨m, .head (stepR_end hb) h1, h2⟩

theorem leave_done {F : Func} {rs : List ResultVar} (vs : List Value) (hf : P.funcs[f]? = some F) (hr : F.results = rs.toArray) (hv : Res P n ρ w rs vs) (hR : R (packed vs) w) :
    Leave P (frameOf f) cs (finRet P f cs R) n k ρ [] w :=
  ⟨_, .refl _ _, _, w, _, rfl, hR, rfl, rfl, rfl, rfl, F, hf, results_run (ds := []) hr hv⟩

/-- A mark: no call was deferred in the rounds. -/
theorem leave_mark {D : Nat} (S : Own X w0 w L) (j : Nat) (hj : L[j]? = some (obj D (.deferred (some []))))
    (h : ∀ w', Own X w0 w' (L.set j (obj D (.deferred none))) → Keep (· = D) w w' → Leave P b cs fin n k ρ ds w') :
    Leave P b cs fin n k ρ (mark D :: ds) w := by
  have ho := S.obj j hj
  obtain ⟨m, h1, h2⟩ := h _ (S.put j hj _) (Keep.put _ _ _)
  refine ⟨m, .head (step_collected (d := mark D) (r := D) (ds := ds) (calls := []) (w' := put w D (.deferred none)) (by simp) rfl rfl ?_) h1, h2⟩
  simp only [Instr.takeDeferred, Sem.run_bind, run_getObj ho rfl, Result.andThen_ok, run_setObj ho rfl, Sem.run_pure]
end
end Go.Vk
