/- The proof engine, part 5: calls, literals, slices. Generic over the program. -/
import Derived.Test.YtddapgjjndbejaaVkDraw
namespace Go.Vk
open Go

section
variable {P : Program} {b : Frame} {cs : List Frame} {fin : Machine → Prop} {n : Nat} {all : Array Oper} {rest : List Oper} {k : List Item} {ρ : Env} {ds : List Deferred} {w w' : World}
  {d : Nat} {d' : Option Nat} {ty : TypeId} {pos : String} {af : Array Edge} {g : Option (Nat × Bool)} {T : TypeId} {x y : Operand} {v : Value}

theorem run_call {E : Operand → Value} {F : Operand} {as : List Operand} {ts : Array TypeId} {f : FuncId} {first cap vals : List Value} {dd : Option Nat}
    (hF : E F = .func (.func f) first.toArray cap.toArray) (he : ∀ args w, (callFunc f args).run P w = .ok (.enter f args) w) (ha : first ++ as.map E ++ cap = vals) :
    (execOp E ⟨dd, .call ⟨.value F, as.toArray, ts⟩, ty, pos, af, g⟩).run P w = .ok (.enter f vals.toArray) w := by
  subst ha
  simp only [execOp, resolve, hF, Deferred.ofValue, Sem.run_bind, Sem.run_pure, Result.andThen_ok, invoke, List.map_toArray, List.append_toArray, he]

/-- A call of a function with a body: by its contract. -/
theorem l_call {F : Operand} {as : List Operand} {ts : Array TypeId} {f : FuncId} (first cap vals : List Value) {R : Value → World → Prop} (hg : gOk all n ρ g = true)
    (hF : ev n ρ F = .func (.func f) first.toArray cap.toArray) (he : ∀ args w, (callFunc f args).run P w = .ok (.enter f args) w) (ha : first ++ as.map (ev n ρ) ++ cap = vals)
    (hc : Cl P f vals.toArray w R) (h : ∀ v w', R v w' → RunL P b cs fin n all rest k (updO d' v ρ) ds w') :
    RunL P b cs fin n all (⟨d', .call ⟨.value F, as.toArray, ts⟩, ty, pos, af, g⟩ :: rest) k ρ ds w :=
  l_enter hg nofun (run_call hF he ha) hc h

/-- The same in a region that draws: the result is the same in every later world. -/
theorem wd_call {K : Env → Prop} {F : Operand} {as : List Operand} {ts : Array TypeId} {f : FuncId} (first cap vals : List Value) (hg : gOk all n ρ g = true)
    (hF : ev n ρ F = .func (.func f) first.toArray cap.toArray) (he : ∀ args w, (callFunc f args).run P w = .ok (.enter f args) w) (ha : first ++ as.map (ev n ρ) ++ cap = vals)
    (hc : ∀ w1, Le w w1 → Cl P f vals.toArray w1 fun u w2 => u = v ∧ Le w1 w2) (h : RW P all n w K rest (updO d' v ρ)) :
    RW P all n w K (⟨d', .call ⟨.value F, as.toArray, ts⟩, ty, pos, af, g⟩ :: rest) ρ :=
  w_call hg nofun (fun _ => run_call hF he ha) hc h

theorem x_func {E : Operand → Value} {fn : Go.Fn} {first cap : List Operand} {vf vc : List Value} (hf : first.map E = vf) (hc : cap.map E = vc) :
    X P E (.makeFunc fn first.toArray cap.toArray) ty w (.func fn vf.toArray vc.toArray) w :=
  ⟨nofun, fun _ _ _ _ => by subst hf; subst hc; simp only [execOp, Instr.makeFunc, List.map_toArray]; rfl⟩

/-! ### literals -/

theorem foldl_set (vs : List Value) : ∀ (off i : Nat) (c : List Value), off + i + vs.length ≤ c.length →
    ((vs.zipIdx i).foldl (fun (cs : Array Value) (p : Value × Nat) => cs.setIfInBounds (off + p.2) p.1) c.toArray) = (splice c (off + i) vs).toArray := by
  induction vs with
  | nil => intro off i c _; simp [splice]
  | cons v vs ih =>
    intro off i c h
    simp only [List.length_cons] at h
    simp only [List.zipIdx_cons, List.foldl_cons, List.setIfInBounds_toArray]
    rw [ih off (i + 1) _ (by simp; omega)]
    congr 1
    have := list_seg_step c (off + i) v vs (by omega)
    simpa [splice, Nat.add_assoc, Nat.add_comm 1] using this

theorem fill_nil {place : Nat → Option (Nat × Nat)} {c : List Value} : Instr.fill place c.toArray [] = some c.toArray := rfl
theorem fill_cons {place : Nat → Option (Nat × Nat)} {c vs : List Value} {i off s : Nat} {u : Value} {rest : List (Nat × Value)} {out : Option (Array Value)} (hp : place i = some (off, s)) (hv : u.cells = vs.toArray) (hs : vs.length = s)
    (hle : off + s ≤ c.length) (h : Instr.fill place (splice c off vs).toArray rest = out) : Instr.fill place c.toArray ((i, u) :: rest) = out := by
  subst hs
  subst h
  have h1 := foldl_set vs off 0 c (by omega)
  simp only [Nat.add_zero] at h1
  rw [← h1]
  conv => lhs; unfold Instr.fill
  rw [hp]
  simp only [hv, List.size_toArray, ne_eq, not_true_eq_false]
  rw [if_neg (by simpa using hle)]
  have h2 : vs.toArray.zipIdx = vs.zipIdx.toArray := by simp
  rw [h2, List.foldl_toArray]

/-- A struct's literal. -/
theorem x_build {E : Operand → Value} {parts : List (Nat × Operand)} {z : Value} {zc out : List Value} {fs : Array Field} {places : Array (Nat × Nat)} (hz : ∀ w, (zeroValue T).run P w = .ok z w) (hzc : z.cells = zc.toArray)
    (hu : ∀ w, (underlying T).run P w = .ok (.struct fs) w) (hp : ∀ w, (fs.mapM (m := Sem) fun f => do pure (f.offset, ← sizeOf f.type)).run P w = .ok places w)
    (hf : Instr.fill (places[·]?) zc.toArray (parts.map fun p => (p.1, E p.2)) = some out.toArray) : X P E (.build T parts.toArray) ty w (.agg out.toArray) w := by
  refine ⟨nofun, fun _ _ _ _ => ?_⟩
  simp only [execOp, Instr.build, Sem.run_bind, hz, Result.andThen_ok, hzc, hu, hp, List.map_toArray]
  rw [hf]
  rfl

end
end Go.Vk
