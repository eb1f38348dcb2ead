/-
  Contracts of functions of the program: each by symbolic execution of its text.
-/
import Derived.Test.YtddapgjjndbejaaF6
namespace Go.Proofs
open Go Go.Vk Go.Vk.Flow

/-- What is read of a net with amounts. -/
structure CarR (w : World) (bc : Nat) (N : Int) (va : Value) (arcs : List Arc) (vx : Value) (x : List Int) (vw : Value) (wl : List Int) (m p : Nat → Int) : Prop where
  blk : Blk w bc (carC N va vx vw m p) 91
  arcs : Rd EA w va arcs
  x : Rd EI w vx x
  w : Rd EI w vw wl
theorem CarR.le {w w' : World} {bc : Nat} {N : Int} {va : Value} {arcs : List Arc} {vx : Value} {x : List Int} {vw : Value} {wl : List Int} {m p : Nat → Int} (h : CarR w bc N va arcs vx x vw wl m p) (hl : Le w w') : CarR w' bc N va arcs vx x vw wl m p :=
  ⟨h.blk.keep hl id, h.arcs.le hl, h.x.le hl, h.w.le hl⟩

/-- (*couchant/flow.carried).steps. -/
theorem c_steps (N : Int) (va : Value) (arcs : List Arc) (vx : Value) (x : List Int) (vw : Value) (wl : List Int) (m p : Nat → Int) (hV : Valid N arcs) (hx0 : Amts arcs x) (hw0 : Wts arcs wl) (hp : ∀ v, -10000000 ≤ p v ∧ p v ≤ 10000000) (bc : Nat) (X : Nat → Prop) (u : World) (yl : Nat) (R : List Stp → Rsc → Prop)
    (hq : ∀ t r w1, R t r → Own X u w1 [r] → CarR w1 bc N va arcs vx x vw wl m p)
    (hy : ∀ t r s w1, R t r → (∃ s', stps p 0 arcs x wl = t ++ s :: s') → Own r.fp w1 w1 [r] → Yl Try.prog yl [Value.agg s.enc.toArray].toArray w1 fun v w2 => ∃ r', v = .bool true ∧ R (t ++ [s]) r' ∧ Own r.fp w1 w2 [r']) (r : Rsc) (hr : R [] r) (w : World) (S : Own X u w [r]) :
    Cl Try.prog 122 #[.pointer (some ⟨bc, 0, none⟩), .func (.yield yl) #[] #[]] w fun _ w' => ∃ r', R (stps p 0 arcs x wl) r' ∧ Own X u w' [r'] := by
  have hNx := hV.max
  have hLx := hV.len
  have hxl := hx0.len
  have hwl := hw0.len
  refine fn_of_run (args := [_, _]) 87 Try.func122 rfl rfl rfl fun cs => ?_
  refine r_seq ?_
  refine r_region ?_
  refine l_x rfl (x_mv rfl) ?_
  refine l_x rfl (x_nilCheck rfl) ?_
  refine l_x rfl (x_fieldAddr rfl Try.runUnderlying91 rfl Try.sizeOf24 (by decide)) ?_
  refine l_x rfl (x_fieldAddr rfl Try.runUnderlying24 rfl Try.sizeOf22 (by decide)) ?_
  refine l_x rfl (x_load rfl (ld_blk (hq _ _ _ (by assumption) (S.take 1)).blk Try.isAgg22 rfl)) ?_
  refine l_x rfl (x_len (hq _ _ _ (by assumption) (S.take 1)).arcs rfl Try.runUnderlying22) ?_
  refine l_x rfl (x_mv rfl) ?_
  refine l_nil ?_
  refine r_block ?_
  refine r_loop (G := Nat × Rsc) (fun ⟨i, r1⟩ => arcs.length - i) (fun ⟨i, r1⟩ => [(0, .pointer (some ⟨bc, 0, none⟩)), (1, .func (.yield yl) #[] #[]), (11, va), (13, .int .i64 i), (12, .int .i64 arcs.length)]) (fun ⟨i, r1⟩ w' => (i ≤ arcs.length) ∧ (R (stps p 0 (arcs.take i) (x.take i) (wl.take i)) r1) ∧ Own X u w' [r1]) (0, r) ⟨rfl, rfl, rfl, rfl, rfl, trivial⟩ ⟨Nat.zero_le _, by simpa [stps] using hr, (S.take 1)⟩ ?_
  rintro ⟨i, r1⟩ ρ w1 ⟨hi, hR, S1⟩ IH
  refine r_seq ?_
  refine r_region ?_
  refine l_x rfl (x_lss rfl rfl) ?_
  refine l_nil ?_
  refine r_seq ?_
  refine r_ifd rfl (fun hc14 => ?_) (fun hc14 => ?_)
  · skip
    obtain ⟨a, ha⟩ : ∃ a, arcs[i]? = some a := ⟨_, List.getElem?_eq_getElem (by omega)⟩
    obtain ⟨y, hy0⟩ : ∃ y, x[i]? = some y := ⟨_, List.getElem?_eq_getElem (by omega)⟩
    obtain ⟨q, hq0⟩ : ∃ q, wl[i]? = some q := ⟨_, List.getElem?_eq_getElem (by omega)⟩
    have hok := hV.at ha
    have hqb := hw0.at hq0
    have hp1 := hp a.src.toNat
    have hp2 := hp a.dst.toNat
    refine r_skip ?_
    refine r_seq ?_
    refine r_block ?_
    refine r_seq ?_
    refine r_region ?_
    refine l_x rfl (x_mv rfl) ?_
    refine l_index EA rfl (hq _ _ _ (by assumption) (S1.take 1)).arcs rfl rfl Try.runUnderlying22 Try.sizeOf39 (by omega) (by first | assumption | exact List.getElem?_eq_getElem (by omega)) ?_
    intro b1 o2 hat3 row4
    refine l_x rfl (x_load rfl (ld_row Try.isAgg39 Try.sizeOf39 rfl row4)) ?_
    refine l_alloc S1 rfl Try.zeroValue39 rfl ?_
    intro b8 w5 S6 hl7
    refine l_x rfl (x_as rfl) ?_
    refine l_stores S6 1 rfl rfl rfl rfl (EA.one _) Try.sizeOf39 (by first | exact Nat.le_refl _ | simp) (splice_all rfl) ?_
    intro w9 S10 hk11
    refine l_nil ?_
    refine r_seq ?_
    refine r_drawR 24 Try.mixed (by kernel_rfl) ?_
    refine w_x rfl (fun w1 h1 => x_mv rfl) ?_
    refine w_x rfl (fun w1 h1 => x_fieldAddr rfl Try.runUnderlying39 rfl Try.sizeOf3 (by decide)) ?_
    refine w_x rfl (fun w1 h1 => x_load rfl (ld_blk ((S10.step h1).blk 1 rfl) Try.isAgg3 rfl)) ?_
    refine w_x rfl (fun w1 h1 => x_nilCheck rfl) ?_
    refine w_x rfl (fun w1 h1 => x_fieldAddr rfl Try.runUnderlying91 rfl Try.sizeOf89 (by decide)) ?_
    refine w_x rfl (fun w1 h1 => x_indexAddr_array rfl rfl Try.runUnderlying89 Try.sizeOf3 (by omega)) ?_
    refine w_x rfl (fun w1 h1 => x_load rfl (ld_blk (hq _ _ _ (by assumption) ((S10.step h1).take 1)).blk Try.isAgg3 (carp_get rfl (by omega)))) ?_
    refine w_x rfl (fun w1 h1 => x_mv rfl) ?_
    refine w_x rfl (fun w1 h1 => x_fieldAddr rfl Try.runUnderlying39 rfl Try.sizeOf3 (by decide)) ?_
    refine w_x rfl (fun w1 h1 => x_load rfl (ld_blk ((S10.step h1).blk 1 rfl) Try.isAgg3 rfl)) ?_
    refine w_x rfl (fun w1 h1 => x_nilCheck rfl) ?_
    refine w_x rfl (fun w1 h1 => x_fieldAddr rfl Try.runUnderlying91 rfl Try.sizeOf89 (by decide)) ?_
    refine w_x rfl (fun w1 h1 => x_indexAddr_array rfl rfl Try.runUnderlying89 Try.sizeOf3 (by omega)) ?_
    refine w_x rfl (fun w1 h1 => x_load rfl (ld_blk (hq _ _ _ (by assumption) ((S10.step h1).take 1)).blk Try.isAgg3 (carp_get rfl (by omega)))) ?_
    refine w_x rfl (fun w1 h1 => x_sub rfl rfl (by omega)) ?_
    refine w_x rfl (fun w1 h1 => x_mv rfl) ?_
    refine w_x rfl (fun w1 h1 => x_nilCheck rfl) ?_
    refine w_x rfl (fun w1 h1 => x_fieldAddr rfl Try.runUnderlying91 rfl Try.sizeOf25 (by decide)) ?_
    refine w_x rfl (fun w1 h1 => x_load rfl (ld_blk (hq _ _ _ (by assumption) ((S10.step h1).take 1)).blk Try.isAgg25 rfl)) ?_
    refine w_x rfl (fun w1 h1 => x_mv rfl) ?_
    refine w_index EI rfl (hq _ _ _ (by assumption) (S10.take 1)).w rfl rfl Try.runUnderlying25 Try.sizeOf3 (by omega) (by first | assumption | exact List.getElem?_eq_getElem (by omega)) ?_
    intro b12 o13 hat14 row15
    refine w_x rfl (fun w1 h1 => x_load rfl (ld_cell Try.isAgg3 ((row15.le h1) 0 _ rfl))) ?_
    refine w_x rfl (fun w1 h1 => x_sub rfl rfl (by omega)) ?_
    refine w_x rfl (fun w1 h1 => x_as rfl) ?_
    refine w_nil ?_
    intro w16 hl17
    have S18 := S10.step hl17
    refine l_nil ?_
    refine r_seq ?_
    refine r_seq ?_
    refine r_slot 6 (.int .i64 (cst p a q)) rfl ?_
    have hcs : -30000000 ≤ cst p a q ∧ cst p a q ≤ 30000000 := by unfold cst; omega
    obtain ⟨s0, hs0⟩ := stps_mid p ha hy0 hq0
    refine r_drawR 19 Try.mixed (by kernel_rfl) ?_
    refine w_x rfl (fun w1 h1 => x_mv rfl) ?_
    refine w_x rfl (fun w1 h1 => x_nilCheck rfl) ?_
    refine w_x rfl (fun w1 h1 => x_fieldAddr rfl Try.runUnderlying91 rfl Try.sizeOf25 (by decide)) ?_
    refine w_x rfl (fun w1 h1 => x_load rfl (ld_blk (hq _ _ _ (by assumption) ((S18.step h1).take 1)).blk Try.isAgg25 rfl)) ?_
    refine w_x rfl (fun w1 h1 => x_mv rfl) ?_
    refine w_index EI rfl (hq _ _ _ (by assumption) (S18.take 1)).x rfl rfl Try.runUnderlying25 Try.sizeOf3 (by omega) (by first | assumption | exact List.getElem?_eq_getElem (by omega)) ?_
    intro b19 o20 hat21 row22
    refine w_x rfl (fun w1 h1 => x_load rfl (ld_cell Try.isAgg3 ((row22.le h1) 0 _ rfl))) ?_
    refine w_x rfl (fun w1 h1 => x_fieldAddr rfl Try.runUnderlying39 rfl Try.sizeOf3 (by decide)) ?_
    refine w_x rfl (fun w1 h1 => x_load rfl (ld_blk ((S18.step h1).blk 1 rfl) Try.isAgg3 rfl)) ?_
    refine w_x rfl (fun w1 h1 => x_lss rfl rfl) ?_
    refine w_x rfl (fun w1 h1 => x_mv rfl) ?_
    refine w_splitd (d := 51) rfl (fun hg51 => ?_) (fun hg51 => ?_)
    · skip
      refine w_x rfl (fun w1 h1 => x_mv rfl) ?_
      refine w_x rfl (fun w1 h1 => x_mv rfl) ?_
      refine w_x rfl (fun w1 h1 => x_fieldAddr rfl Try.runUnderlying39 rfl Try.sizeOf3 (by decide)) ?_
      refine w_x rfl (fun w1 h1 => x_load rfl (ld_blk ((S18.step h1).blk 1 rfl) Try.isAgg3 rfl)) ?_
      refine w_x rfl (fun w1 h1 => x_fieldAddr rfl Try.runUnderlying39 rfl Try.sizeOf3 (by decide)) ?_
      refine w_x rfl (fun w1 h1 => x_load rfl (ld_blk ((S18.step h1).blk 1 rfl) Try.isAgg3 rfl)) ?_
      refine w_x rfl (fun w1 h1 => x_mv rfl) ?_
      refine w_x rfl (fun w1 h1 => x_buildS (out := [_, _, _, _, _]) (ss := [1, 1, 1, 1, 1]) Try.zeroValue126 rfl Try.runUnderlying126 ⟨Try.sizeOf3, Try.sizeOf4, Try.sizeOf3, Try.sizeOf3, Try.sizeOf3, trivial⟩ (fill_cons rfl rfl rfl (Nat.le_of_ble_eq_true rfl) (fill_cons rfl rfl rfl (Nat.le_of_ble_eq_true rfl) (fill_cons rfl rfl rfl (Nat.le_of_ble_eq_true rfl) (fill_cons rfl rfl rfl (Nat.le_of_ble_eq_true rfl) (fill_cons rfl rfl rfl (Nat.le_of_ble_eq_true rfl) fill_nil)))))) ?_
      refine w_nil ?_
      intro w23 hl24
      have S25 := S18.step hl24
      refine l_yield [_] rfl rfl rfl (hy (stps p 0 (arcs.take i) (x.take i) (wl.take i)) r1 (fwd p i a q) _ hR ⟨(if a.lo < y then [bwd p i a q] else []) ++ s0, by rw [hs0, stp1, if_pos hg51]; simp only [List.cons_append, List.nil_append]⟩ (S25.lend 0 rfl)) ?_
      rintro _ w26 ⟨r29, rfl, hRr29, hback27⟩
      have S28 := S25.back 0 rfl hback27
      refine l_x rfl (x_not rfl) ?_
      refine l_x rfl (x_pick_t rfl rfl) ?_
      refine l_nil ?_
      refine r_false rfl ?_
      refine r_skip ?_
      refine r_seq ?_
      refine r_drawR 20 Try.mixed (by kernel_rfl) ?_
      refine w_x rfl (fun w1 h1 => x_mv rfl) ?_
      refine w_x rfl (fun w1 h1 => x_nilCheck rfl) ?_
      refine w_x rfl (fun w1 h1 => x_fieldAddr rfl Try.runUnderlying91 rfl Try.sizeOf25 (by decide)) ?_
      refine w_x rfl (fun w1 h1 => x_load rfl (ld_blk (hq _ _ _ (by assumption) ((S28.step h1).take 1)).blk Try.isAgg25 rfl)) ?_
      refine w_x rfl (fun w1 h1 => x_mv rfl) ?_
      refine w_index EI rfl (hq _ _ _ (by assumption) (S28.take 1)).x rfl rfl Try.runUnderlying25 Try.sizeOf3 (by omega) (by first | assumption | exact List.getElem?_eq_getElem (by omega)) ?_
      intro b30 o31 hat32 row33
      refine w_x rfl (fun w1 h1 => x_load rfl (ld_cell Try.isAgg3 ((row33.le h1) 0 _ rfl))) ?_
      refine w_x rfl (fun w1 h1 => x_fieldAddr rfl Try.runUnderlying39 rfl Try.sizeOf3 (by decide)) ?_
      refine w_x rfl (fun w1 h1 => x_load rfl (ld_blk ((S28.step h1).blk 1 rfl) Try.isAgg3 rfl)) ?_
      refine w_x rfl (fun w1 h1 => x_gtr rfl rfl) ?_
      refine w_x rfl (fun w1 h1 => x_mv rfl) ?_
      refine w_splitd (d := 73) rfl (fun hg73 => ?_) (fun hg73 => ?_)
      · skip
        refine w_x rfl (fun w1 h1 => x_mv rfl) ?_
        refine w_x rfl (fun w1 h1 => x_mv rfl) ?_
        refine w_x rfl (fun w1 h1 => x_fieldAddr rfl Try.runUnderlying39 rfl Try.sizeOf3 (by decide)) ?_
        refine w_x rfl (fun w1 h1 => x_load rfl (ld_blk ((S28.step h1).blk 1 rfl) Try.isAgg3 rfl)) ?_
        refine w_x rfl (fun w1 h1 => x_fieldAddr rfl Try.runUnderlying39 rfl Try.sizeOf3 (by decide)) ?_
        refine w_x rfl (fun w1 h1 => x_load rfl (ld_blk ((S28.step h1).blk 1 rfl) Try.isAgg3 rfl)) ?_
        refine w_x rfl (fun w1 h1 => x_mv rfl) ?_
        refine w_x rfl (fun w1 h1 => x_neg rfl (by omega)) ?_
        refine w_x rfl (fun w1 h1 => x_buildS (out := [_, _, _, _, _]) (ss := [1, 1, 1, 1, 1]) Try.zeroValue126 rfl Try.runUnderlying126 ⟨Try.sizeOf3, Try.sizeOf4, Try.sizeOf3, Try.sizeOf3, Try.sizeOf3, trivial⟩ (fill_cons rfl rfl rfl (Nat.le_of_ble_eq_true rfl) (fill_cons rfl rfl rfl (Nat.le_of_ble_eq_true rfl) (fill_cons rfl rfl rfl (Nat.le_of_ble_eq_true rfl) (fill_cons rfl rfl rfl (Nat.le_of_ble_eq_true rfl) (fill_cons rfl rfl rfl (Nat.le_of_ble_eq_true rfl) fill_nil)))))) ?_
        refine w_nil ?_
        intro w34 hl35
        have S36 := S28.step hl35
        refine l_yield [_] rfl rfl rfl (hy (stps p 0 (arcs.take i) (x.take i) (wl.take i) ++ [fwd p i a q]) r29 (bwd p i a q) _ hRr29 ⟨s0, by rw [hs0, stp1, if_pos hg51, if_pos hg73]; simp only [List.append_assoc, List.cons_append, List.nil_append]⟩ (S36.lend 0 rfl)) ?_
        rintro _ w37 ⟨r40, rfl, hRr40, hback38⟩
        have S39 := S36.back 0 rfl hback38
        refine l_x rfl (x_not rfl) ?_
        refine l_x rfl (x_pick_t rfl rfl) ?_
        refine l_nil ?_
        refine r_false rfl ?_
        refine r_skip ?_
        refine r_inBlock ?_
        refine r_region ?_
        refine l_x rfl (x_add rfl rfl (by omega)) ?_
        refine l_x rfl (x_mv rfl) ?_
        refine l_nil ?_
        exact IH (i + 1, r40) _ _ (by dsimp only; omega) ⟨rfl, rfl, rfl, rfl, rfl, trivial⟩ ⟨by omega, by rw [stps_take p ha hy0 hq0, stp1, if_pos hg51, if_pos hg73]; simpa only [List.append_assoc, List.cons_append, List.nil_append, List.append_nil] using hRr40, (S39.take 1)⟩
      · skip
        refine w_pass rfl ?_
        refine w_pass rfl ?_
        refine w_pass rfl ?_
        refine w_pass rfl ?_
        refine w_pass rfl ?_
        refine w_pass rfl ?_
        refine w_pass rfl ?_
        refine w_pass rfl ?_
        refine w_pass rfl ?_
        refine w_nil ?_
        intro w41 hl42
        have S43 := S28.step hl42
        refine l_pass rfl ?_
        refine l_pass rfl ?_
        refine l_x rfl (x_pick_f rfl rfl) ?_
        refine l_nil ?_
        refine r_false rfl ?_
        refine r_skip ?_
        refine r_inBlock ?_
        refine r_region ?_
        refine l_x rfl (x_add rfl rfl (by omega)) ?_
        refine l_x rfl (x_mv rfl) ?_
        refine l_nil ?_
        exact IH (i + 1, r29) _ _ (by dsimp only; omega) ⟨rfl, rfl, rfl, rfl, rfl, trivial⟩ ⟨by omega, by rw [stps_take p ha hy0 hq0, stp1, if_pos hg51, if_neg hg73]; simpa only [List.append_assoc, List.cons_append, List.nil_append, List.append_nil] using hRr29, (S43.take 1)⟩
    · skip
      refine w_pass rfl ?_
      refine w_pass rfl ?_
      refine w_pass rfl ?_
      refine w_pass rfl ?_
      refine w_pass rfl ?_
      refine w_pass rfl ?_
      refine w_pass rfl ?_
      refine w_pass rfl ?_
      refine w_nil ?_
      intro w44 hl45
      have S46 := S18.step hl45
      refine l_pass rfl ?_
      refine l_pass rfl ?_
      refine l_x rfl (x_pick_f rfl rfl) ?_
      refine l_nil ?_
      refine r_false rfl ?_
      refine r_skip ?_
      refine r_seq ?_
      refine r_drawR 20 Try.mixed (by kernel_rfl) ?_
      refine w_x rfl (fun w1 h1 => x_mv rfl) ?_
      refine w_x rfl (fun w1 h1 => x_nilCheck rfl) ?_
      refine w_x rfl (fun w1 h1 => x_fieldAddr rfl Try.runUnderlying91 rfl Try.sizeOf25 (by decide)) ?_
      refine w_x rfl (fun w1 h1 => x_load rfl (ld_blk (hq _ _ _ (by assumption) ((S46.step h1).take 1)).blk Try.isAgg25 rfl)) ?_
      refine w_x rfl (fun w1 h1 => x_mv rfl) ?_
      refine w_index EI rfl (hq _ _ _ (by assumption) (S46.take 1)).x rfl rfl Try.runUnderlying25 Try.sizeOf3 (by omega) (by first | assumption | exact List.getElem?_eq_getElem (by omega)) ?_
      intro b47 o48 hat49 row50
      refine w_x rfl (fun w1 h1 => x_load rfl (ld_cell Try.isAgg3 ((row50.le h1) 0 _ rfl))) ?_
      refine w_x rfl (fun w1 h1 => x_fieldAddr rfl Try.runUnderlying39 rfl Try.sizeOf3 (by decide)) ?_
      refine w_x rfl (fun w1 h1 => x_load rfl (ld_blk ((S46.step h1).blk 1 rfl) Try.isAgg3 rfl)) ?_
      refine w_x rfl (fun w1 h1 => x_gtr rfl rfl) ?_
      refine w_x rfl (fun w1 h1 => x_mv rfl) ?_
      refine w_splitd (d := 73) rfl (fun hg73 => ?_) (fun hg73 => ?_)
      · skip
        refine w_x rfl (fun w1 h1 => x_mv rfl) ?_
        refine w_x rfl (fun w1 h1 => x_mv rfl) ?_
        refine w_x rfl (fun w1 h1 => x_fieldAddr rfl Try.runUnderlying39 rfl Try.sizeOf3 (by decide)) ?_
        refine w_x rfl (fun w1 h1 => x_load rfl (ld_blk ((S46.step h1).blk 1 rfl) Try.isAgg3 rfl)) ?_
        refine w_x rfl (fun w1 h1 => x_fieldAddr rfl Try.runUnderlying39 rfl Try.sizeOf3 (by decide)) ?_
        refine w_x rfl (fun w1 h1 => x_load rfl (ld_blk ((S46.step h1).blk 1 rfl) Try.isAgg3 rfl)) ?_
        refine w_x rfl (fun w1 h1 => x_mv rfl) ?_
        refine w_x rfl (fun w1 h1 => x_neg rfl (by omega)) ?_
        refine w_x rfl (fun w1 h1 => x_buildS (out := [_, _, _, _, _]) (ss := [1, 1, 1, 1, 1]) Try.zeroValue126 rfl Try.runUnderlying126 ⟨Try.sizeOf3, Try.sizeOf4, Try.sizeOf3, Try.sizeOf3, Try.sizeOf3, trivial⟩ (fill_cons rfl rfl rfl (Nat.le_of_ble_eq_true rfl) (fill_cons rfl rfl rfl (Nat.le_of_ble_eq_true rfl) (fill_cons rfl rfl rfl (Nat.le_of_ble_eq_true rfl) (fill_cons rfl rfl rfl (Nat.le_of_ble_eq_true rfl) (fill_cons rfl rfl rfl (Nat.le_of_ble_eq_true rfl) fill_nil)))))) ?_
        refine w_nil ?_
        intro w51 hl52
        have S53 := S46.step hl52
        refine l_yield [_] rfl rfl rfl (hy (stps p 0 (arcs.take i) (x.take i) (wl.take i)) r1 (bwd p i a q) _ hR ⟨s0, by rw [hs0, stp1, if_neg hg51, if_pos hg73]; simp only [List.append_assoc, List.cons_append, List.nil_append]⟩ (S53.lend 0 rfl)) ?_
        rintro _ w54 ⟨r57, rfl, hRr57, hback55⟩
        have S56 := S53.back 0 rfl hback55
        refine l_x rfl (x_not rfl) ?_
        refine l_x rfl (x_pick_t rfl rfl) ?_
        refine l_nil ?_
        refine r_false rfl ?_
        refine r_skip ?_
        refine r_inBlock ?_
        refine r_region ?_
        refine l_x rfl (x_add rfl rfl (by omega)) ?_
        refine l_x rfl (x_mv rfl) ?_
        refine l_nil ?_
        exact IH (i + 1, r57) _ _ (by dsimp only; omega) ⟨rfl, rfl, rfl, rfl, rfl, trivial⟩ ⟨by omega, by rw [stps_take p ha hy0 hq0, stp1, if_neg hg51, if_pos hg73]; simpa only [List.append_assoc, List.cons_append, List.nil_append, List.append_nil] using hRr57, (S56.take 1)⟩
      · skip
        refine w_pass rfl ?_
        refine w_pass rfl ?_
        refine w_pass rfl ?_
        refine w_pass rfl ?_
        refine w_pass rfl ?_
        refine w_pass rfl ?_
        refine w_pass rfl ?_
        refine w_pass rfl ?_
        refine w_pass rfl ?_
        refine w_nil ?_
        intro w58 hl59
        have S60 := S46.step hl59
        refine l_pass rfl ?_
        refine l_pass rfl ?_
        refine l_x rfl (x_pick_f rfl rfl) ?_
        refine l_nil ?_
        refine r_false rfl ?_
        refine r_skip ?_
        refine r_inBlock ?_
        refine r_region ?_
        refine l_x rfl (x_add rfl rfl (by omega)) ?_
        refine l_x rfl (x_mv rfl) ?_
        refine l_nil ?_
        exact IH (i + 1, r1) _ _ (by dsimp only; omega) ⟨rfl, rfl, rfl, rfl, rfl, trivial⟩ ⟨by omega, by rw [stps_take p ha hy0 hq0, stp1, if_neg hg51, if_neg hg73]; simpa only [List.append_assoc, List.cons_append, List.nil_append, List.append_nil] using hR, (S60.take 1)⟩
  · skip
    have hi : i = arcs.length := by omega
    subst hi
    rw [List.take_length, List.take_of_length_le (by omega), List.take_of_length_le (by omega)] at hR
    refine r_exit rfl ?_
    refine r_end (rs := []) [] Try.func122 rfl trivial ?_
    exact ⟨_, hR, S1⟩

end Go.Proofs
