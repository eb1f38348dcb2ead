/-
  Contracts of functions of the program: each by symbolic execution of its text.
-/
import Derived.Test.YtddapgjjndbejaaF1
namespace Go.Proofs
open Go Go.Vk Go.Vk.Flow

/-- couchant/flow.kept. -/
theorem c_kept (N : Int) (va : Value) (arcs : List Arc) (vx : Value) (x : List Int) (hV : Valid N arcs) (hx : Amts arcs x) (w : World) (hA : Rd EA w va arcs) (hX : Rd EI w vx x) :
    Cl Try.prog 68 #[.agg #[.int .i64 N, va], vx] w fun v w' => v = .bool (Flow.kept 1000 arcs x) ∧ Le w w' := by
  have hNx := hV.max
  have hLx := hV.len
  refine fn_of_run (args := [_, _]) 50 Try.func68 rfl rfl rfl fun cs => ?_
  have S := Own.start (X := nob) w
  refine r_seq ?_
  refine r_region ?_
  refine l_box S rfl rfl ?_
  intro b4 w1 S2 hl3
  refine l_x rfl (x_as rfl) ?_
  refine l_nil ?_
  refine r_seq ?_
  refine r_region ?_
  refine l_alloc S2 rfl Try.zeroValue89 zcT ?_
  intro b8 w5 S6 hl7
  refine l_nil ?_
  refine r_seq ?_
  refine r_seq ?_
  refine r_region ?_
  refine l_x rfl (x_fieldAddr rfl Try.runUnderlying24 rfl Try.sizeOf22 (by decide)) ?_
  refine l_x rfl (x_load rfl (ld_blk (S6.blk 0 rfl) Try.isAgg22 rfl)) ?_
  refine l_x rfl (x_len (hA.le S6.le) rfl Try.runUnderlying22) ?_
  refine l_x rfl (x_mv rfl) ?_
  refine l_nil ?_
  refine r_block ?_
  refine r_loop (G := Nat) (fun i => arcs.length - i) (fun i => [(1, vx), (9, va), (11, .int .i64 i), (10, .int .i64 arcs.length), (2, .pointer (some ⟨b4, 0, none⟩)), (5, .pointer (some ⟨b8, 0, none⟩))]) (fun i w' => (i ≤ arcs.length) ∧ (within (arcs.take i) (x.take i) = true) ∧ Own nob w w' [blk b4 [.int .i64 N, va] 24, blk b8 (tab 1000 (ex (arcs.take i) (x.take i))) 89]) 0 ⟨rfl, rfl, rfl, rfl, rfl, rfl, trivial⟩ ⟨Nat.zero_le _, by simp [within], (by rw [ex_zero]; exact S6)⟩ ?_
  rintro i ρ w1 ⟨hi, hw, S1⟩ IH
  refine r_seq ?_
  refine r_region ?_
  refine l_x rfl (x_lss rfl rfl) ?_
  refine l_nil ?_
  refine r_seq ?_
  refine r_ifd rfl (fun hc12 => ?_) (fun hc12 => ?_)
  · skip
    obtain ⟨a, ha⟩ : ∃ a, arcs[i]? = some a := ⟨_, List.getElem?_eq_getElem (by omega)⟩
    obtain ⟨y, hy⟩ : ∃ y, x[i]? = some y := ⟨_, List.getElem?_eq_getElem (by have := hx.len; omega)⟩
    have hok := hV.at ha
    have hyb := hx.at hy
    refine r_skip ?_
    refine r_seq ?_
    refine r_block ?_
    refine r_seq ?_
    refine r_region ?_
    refine l_x rfl (x_mv rfl) ?_
    refine l_index EA rfl (hA.le S1.le) rfl rfl Try.runUnderlying22 Try.sizeOf39 (by omega) (by first | assumption | exact List.getElem?_eq_getElem (by omega)) ?_
    intro b9 o10 hat11 row12
    refine l_x rfl (x_load rfl (ld_row Try.isAgg39 Try.sizeOf39 rfl row12)) ?_
    refine l_alloc S1 rfl Try.zeroValue39 rfl ?_
    intro b16 w13 S14 hl15
    refine l_x rfl (x_as rfl) ?_
    refine l_stores S14 2 rfl rfl rfl rfl (EA.one _) Try.sizeOf39 (by first | exact Nat.le_refl _ | simp) (splice_all rfl) ?_
    intro w17 S18 hk19
    refine l_nil ?_
    refine r_seq ?_
    refine r_seq ?_
    refine r_drawR 10 Try.mixed (by kernel_rfl) ?_
    refine w_x rfl (fun w1 h1 => x_mv rfl) ?_
    refine w_x rfl (fun w1 h1 => x_mv rfl) ?_
    refine w_index EI rfl (hX.le S18.le) rfl rfl Try.runUnderlying25 Try.sizeOf3 (by omega) (by first | assumption | exact List.getElem?_eq_getElem (by omega)) ?_
    intro b20 o21 hat22 row23
    refine w_x rfl (fun w1 h1 => x_load rfl (ld_cell Try.isAgg3 ((row23.le h1) 0 _ rfl))) ?_
    refine w_x rfl (fun w1 h1 => x_fieldAddr rfl Try.runUnderlying39 rfl Try.sizeOf3 (by decide)) ?_
    refine w_x rfl (fun w1 h1 => x_load rfl (ld_blk ((S18.step h1).blk 2 rfl) Try.isAgg3 rfl)) ?_
    refine w_x rfl (fun w1 h1 => x_fieldAddr rfl Try.runUnderlying39 rfl Try.sizeOf3 (by decide)) ?_
    refine w_x rfl (fun w1 h1 => x_load rfl (ld_blk ((S18.step h1).blk 2 rfl) Try.isAgg3 rfl)) ?_
    refine wd_call [] [] [_, _, _] rfl rfl Try.call64 rfl (fun w1 h1 => c_in _ _ _ _) ?_
    refine w_x rfl (fun w1 h1 => x_notd rfl) ?_
    refine w_nil ?_
    intro w24 hl25
    have S26 := S18.step hl25
    refine l_nil ?_
    refine r_ifd rfl (fun hc25 => ?_) (fun hc25 => ?_)
    · skip
      refine r_seq ?_
      refine r_region ?_
      refine l_x rfl (x_as rfl) ?_
      refine l_nil ?_
      refine r_ret (rs := [.tmp 4]) [_] Try.func68 rfl ⟨rfl, trivial⟩ ?_
      exact ⟨congrArg Value.bool (by rw [Flow.kept, within_ge (i := i + 1) (by rw [within_take ha hy, hw, decide_eq_false hc25]; rfl)]; rfl), S26.le⟩
    · skip
      have hw' : within (arcs.take (i + 1)) (x.take (i + 1)) = true := by rw [within_take ha hy, hw, decide_eq_true (by omega)]; rfl
      refine r_skip ?_
      refine r_seq ?_
      have hb1 := ex_bd_take hV hx i a.dst.toNat
      refine r_drawR 10 Try.mixed (by kernel_rfl) ?_
      refine w_x rfl (fun w1 h1 => x_fieldAddr rfl Try.runUnderlying39 rfl Try.sizeOf3 (by decide)) ?_
      refine w_x rfl (fun w1 h1 => x_load rfl (ld_blk ((S26.step h1).blk 2 rfl) Try.isAgg3 rfl)) ?_
      refine w_x rfl (fun w1 h1 => x_indexAddr_array rfl rfl Try.runUnderlying89 Try.sizeOf3 (by omega)) ?_
      refine w_x rfl (fun w1 h1 => x_load rfl (ld_blk ((S26.step h1).blk 1 rfl) Try.isAgg3 (tabs_get rfl (by omega)))) ?_
      refine w_x rfl (fun w1 h1 => x_mv rfl) ?_
      refine w_x rfl (fun w1 h1 => x_mv rfl) ?_
      refine w_index EI rfl (hX.le S26.le) rfl rfl Try.runUnderlying25 Try.sizeOf3 (by omega) (by first | assumption | exact List.getElem?_eq_getElem (by omega)) ?_
      intro b27 o28 hat29 row30
      refine w_x rfl (fun w1 h1 => x_load rfl (ld_cell Try.isAgg3 ((row30.le h1) 0 _ rfl))) ?_
      refine w_x rfl (fun w1 h1 => x_add rfl rfl (by omega)) ?_
      refine w_x rfl (fun w1 h1 => x_indexAddr_array rfl rfl Try.runUnderlying89 Try.sizeOf3 (by omega)) ?_
      refine w_nil ?_
      intro w31 hl32
      have S33 := S26.step hl32
      refine l_storeq S33 1 rfl rfl rfl rfl rfl Try.sizeOf3 (tabs_lt rfl (by omega)) (tabs_set rfl (by omega)) ?_
      intro w34 S35 hk36
      refine l_nil ?_
      have hb2 := ex_bd_take hV hx i a.src.toNat
      have hb3 : -5000000000 ≤ upf (ex (arcs.take i) (x.take i)) a.dst.toNat (ex (arcs.take i) (x.take i) a.dst.toNat + y) a.src.toNat ∧ upf (ex (arcs.take i) (x.take i)) a.dst.toNat (ex (arcs.take i) (x.take i) a.dst.toNat + y) a.src.toNat ≤ 5000000000 := by
        unfold upf; split <;> omega
      refine r_drawR 10 Try.mixed (by kernel_rfl) ?_
      refine w_x rfl (fun w1 h1 => x_fieldAddr rfl Try.runUnderlying39 rfl Try.sizeOf3 (by decide)) ?_
      refine w_x rfl (fun w1 h1 => x_load rfl (ld_blk ((S35.step h1).blk 2 rfl) Try.isAgg3 rfl)) ?_
      refine w_x rfl (fun w1 h1 => x_indexAddr_array rfl rfl Try.runUnderlying89 Try.sizeOf3 (by omega)) ?_
      refine w_x rfl (fun w1 h1 => x_load rfl (ld_blk ((S35.step h1).blk 1 rfl) Try.isAgg3 (tabs_get rfl (by omega)))) ?_
      refine w_x rfl (fun w1 h1 => x_mv rfl) ?_
      refine w_x rfl (fun w1 h1 => x_mv rfl) ?_
      refine w_index EI rfl (hX.le S35.le) rfl rfl Try.runUnderlying25 Try.sizeOf3 (by omega) (by first | assumption | exact List.getElem?_eq_getElem (by omega)) ?_
      intro b37 o38 hat39 row40
      refine w_x rfl (fun w1 h1 => x_load rfl (ld_cell Try.isAgg3 ((row40.le h1) 0 _ rfl))) ?_
      refine w_x rfl (fun w1 h1 => x_sub rfl rfl (by omega)) ?_
      refine w_x rfl (fun w1 h1 => x_indexAddr_array rfl rfl Try.runUnderlying89 Try.sizeOf3 (by omega)) ?_
      refine w_nil ?_
      intro w41 hl42
      have S43 := S35.step hl42
      refine l_storeq S43 1 rfl rfl rfl rfl rfl Try.sizeOf3 (tabs_lt rfl (by omega)) (tabs_set rfl (by omega)) ?_
      intro w44 S45 hk46
      refine l_nil ?_
      refine r_inBlock ?_
      refine r_region ?_
      refine l_x rfl (x_add rfl rfl (by omega)) ?_
      refine l_x rfl (x_mv rfl) ?_
      refine l_nil ?_
      exact IH (i + 1) _ _ (by omega) ⟨rfl, rfl, rfl, rfl, rfl, rfl, trivial⟩ ⟨by omega, hw', (by rw [← ex_step ha hy (by omega) (by omega) rfl]; exact S45.take 2)⟩
  · skip
    have hi : i = arcs.length := by omega
    subst hi
    rw [List.take_length, ← hx.len, List.take_length] at *
    refine r_exit rfl ?_
    refine r_seq ?_
    refine r_region ?_
    refine l_x rfl (x_load rfl (ld_blks (S1.blk 1 rfl) Try.isAgg89 Try.sizeOf89 tabs_all (tab_length ..))) ?_
    refine l_x rfl (x_buildz Try.zeroValue89 zcT Try.runUnderlying89 Try.sizeOf3) ?_
    refine l_x rfl (x_eqtab Try.underlying89 info3 cellsI Try.underlying3 Try.isAgg3 Try.eqGuardType89 rfl rfl) ?_
    refine l_x rfl (x_as rfl) ?_
    refine l_nil ?_
    refine r_ret (rs := [.tmp 4]) [_] Try.func68 rfl ⟨rfl, trivial⟩ ?_
    exact ⟨congrArg Value.bool (by rw [Flow.kept, hw, Bool.true_and]), S1.le⟩

end Go.Proofs
