/-
  Contracts of functions of the program: each by symbolic execution of its text.
-/
import Derived.Test.YtddapgjjndbejaaF11
namespace Go.Proofs
open Go Go.Vk Go.Vk.Flow

theorem zcC : Try.zeroCells91 = (carC 0 (.slice none 0 0) (.slice none 0 0) (.slice none 0 0) (fun _ => 0) (fun _ => 0)).toArray := by kernel_rfl
theorem carC_len (N : Int) (va vx vw : Value) (m p : Nat → Int) : (carC N va vx vw m p).length = 2004 := by
  simp [carC, tab_length]
theorem car_fill {N : Int} {va vx vw : Value} (h1 : vx.cells = [vx].toArray) (h2 : vw.cells = [vw].toArray) {pl : List (Nat × Nat)} (hp : pl = [(0, 2), (2, 1), (3, 1), (4, 1000), (1004, 1000)]) :
    Instr.fill (pl.toArray[·]?) (carC 0 (.slice none 0 0) (.slice none 0 0) (.slice none 0 0) (fun _ => 0) (fun _ => 0)).toArray [(0, .agg #[.int .i64 N, va]), (1, vx), (2, vw)] = some (carC N va vx vw (fun _ => 0) fun _ => 0).toArray := by
  subst hp
  have e1 : splice (carC 0 (.slice none 0 0) (.slice none 0 0) (.slice none 0 0) (fun _ => 0) (fun _ => 0)) 0 [.int .i64 N, va] = carC N va (.slice none 0 0) (.slice none 0 0) (fun _ => 0) (fun _ => 0) := rfl
  have e2 : splice (carC N va (.slice none 0 0) (.slice none 0 0) (fun _ => 0) (fun _ => 0)) 2 [vx] = carC N va vx (.slice none 0 0) (fun _ => 0) (fun _ => 0) := rfl
  have e3 : splice (carC N va vx (.slice none 0 0) (fun _ => 0) (fun _ => 0)) 3 [vw] = carC N va vx vw (fun _ => 0) (fun _ => 0) := by simp [splice, carC]
  refine fill_cons (vs := [.int .i64 N, va]) (s := 2) rfl rfl rfl (by rw [carC_len]; decide) ?_
  rw [e1]
  refine fill_cons (s := 1) rfl h1 rfl (by rw [carC_len]; decide) ?_
  rw [e2]
  refine fill_cons (s := 1) rfl h2 rfl (by rw [carC_len]; decide) ?_
  rw [e3]
  exact fill_nil
/-- slices.Max of what nodes have too much. -/
theorem c_Max (bc : Nat) (N : Int) (va vx vw : Value) (mo p : Nat → Int) (w : World) (h : Blk w bc (carC N va vx vw mo p) 91) :
    Cl Try.prog 120 #[.slice (some ⟨bc, 4, none⟩) 1000 1000] w fun v w' => ∃ mx, v = .int .i64 mx ∧ Le w w' ∧ (0 < mx ↔ ∃ u : Nat, u < 1000 ∧ 0 < mo u) := by
  have hz : ∀ j, j < ((List.range 1000).map mo).length → w.cell? ⟨bc, 4 + j, none⟩ = some (.int .i64 (((List.range 1000).map mo).getD j 0)) := by
    intro j hj
    have hj' : j < 1000 := by simpa using hj
    have h1 := h.cell (carm_get (N := N) (va := va) (vx := vx) (vw := vw) (m := mo) (p := p) (o := 4) rfl hj')
    rw [Nat.mul_one] at h1
    rw [h1]
    simp [List.getD_eq_getElem?_getD, hj']
  refine (Try.slices_Max_int bc 4 1000 1000 ((List.range 1000).map mo) w (by omega) (by simp) (by omega) hz).mono fun e w' ⟨he, hw⟩ => ⟨_, he, _, rfl, by subst hw; exact Le.refl _, ?_⟩
  rw [List.take_of_length_le (by simp), maxOf_pos (by simp)]
  constructor
  · rintro ⟨z, hz, hp⟩
    obtain ⟨u, hu, rfl⟩ := List.mem_map.1 hz
    exact ⟨u, List.mem_range.1 hu, hp⟩
  · rintro ⟨u, hu, hp⟩
    exact ⟨mo u, List.mem_map.2 ⟨u, List.mem_range.2 hu, rfl⟩, hp⟩

set_option maxHeartbeats 1000000 in
/-- couchant/flow.best. -/
theorem c_best (N : Int) (va : Value) (arcs : List Arc) (vw : Value) (wl : List Int) (hV : Valid N arcs) (hw0 : Wts arcs wl) (w : World) (hA : Rd EA w va arcs) (Hw : Rd EI w vw wl) :
    Cl Try.prog 71 #[.agg #[.int .i64 N, va], vw] w fun v w' => (∃ bc vx x mo p, v = .tuple #[.pointer (some ⟨bc, 0, none⟩), .agg #[.int .i64 0, .slice none 0 0], .bool true] ∧ Own nob w w' [blk bc (carC N va vx vw mo p) 91, vec EI vx x] ∧ Cn N arcs wl x mo p ∧ ∀ u : Nat, u < 1000 → mo u ≤ 0) ∨
    ∃ A vn ns, v = .tuple #[.pointer none, .agg #[.int .i64 A, vn], .bool false] ∧ New w w' (vec EI vn ns) ∧ Le w w' ∧ hind N arcs A ns = true := by
  have hNx := hV.max
  have hN1 := hV.pos
  have hLx := hV.len
  have hwl := hw0.len
  have hxA := x0_amts hV hw0
  have hxl := hxA.len
  have hfar : far = 1152921504606846976 := rfl
  refine fn_of_run (args := [_, _]) 131 Try.func71 rfl rfl rfl fun cs => ?_
  have S := Own.start (X := nob) w
  refine r_seq ?_
  refine r_region ?_
  refine l_box S rfl rfl ?_
  intro b4 w1 S2 hl3
  refine l_x rfl (x_as rfl) ?_
  refine l_alloc S2 rfl Try.zeroValue43 rfl ?_
  intro b8 w5 S6 hl7
  refine l_x rfl (x_as rfl) ?_
  refine l_nil ?_
  refine r_seq ?_
  refine r_drawE 8 nob Try.mixed (by kernel_rfl) ?_
  intro w9 hl10
  have S11 := S6.step hl10
  refine e_exact 0 _ (by kernel_rfl) rfl rfl (by kernel_rfl) rfl (ex_x rfl (fun w1 h1 => x_load rfl (ld_blks ((S11.step h1).blk 0 rfl) Try.isAgg24 Try.sizeOf24 rfl rfl))) ?_
  refine e_exact 1 _ (by kernel_rfl) rfl rfl (by kernel_rfl) rfl (ex_x rfl (fun w1 h1 => x_fieldAddr rfl Try.runUnderlying24 rfl Try.sizeOf22 (by decide))) ?_
  refine e_exact 2 _ (by kernel_rfl) rfl rfl (by kernel_rfl) rfl (ex_x rfl (fun w1 h1 => x_load rfl (ld_blk ((S11.step h1).blk 0 rfl) Try.isAgg22 rfl))) ?_
  refine e_exact 3 _ (by kernel_rfl) rfl rfl (by kernel_rfl) rfl (ex_x rfl (fun w1 h1 => x_len (hA.le (S11.step h1).le) rfl Try.runUnderlying22)) ?_
  refine e_exact 5 _ (by kernel_rfl) rfl rfl (by kernel_rfl) rfl (ex_x rfl (fun w1 h1 => x_mv rfl)) ?_
  refine e_next [4] (by kernel_rfl) (by kernel_rfl) ⟨⟨_, _, rfl, rfl, ?_⟩, trivial⟩
  refine s_make EI 0 S11 rfl Try.runUnderlying25 Try.sizeOf3 Try.typeInfo3 Try.zeroValue3 rfl rfl rfl rfl (Nat.le_refl _) (by unfold maxLen; omega) (by show _ * 8 ≤ _; omega) ?_
  intro v15 w12 hv16 S13 hl14
  refine ⟨.of_le hl14, ?_⟩
  refine e_exact 6 _ (by kernel_rfl) rfl rfl (by kernel_rfl) rfl (ex_x rfl (fun w1 h1 => x_buildS (ss := [2, 1, 1, 1000, 1000]) Try.zeroValue91 zcC Try.runUnderlying91 ⟨Try.sizeOf24, Try.sizeOf25, Try.sizeOf25, Try.sizeOf89, Try.sizeOf89, trivial⟩ (car_fill (Rd.cells (vec_rd (S13.at 2 rfl))) (Rd.cells (Hw.le S13.le)) rfl))) ?_
  refine e_next [7] (by kernel_rfl) (by kernel_rfl) ⟨⟨_, _, rfl, rfl, ?_⟩, trivial⟩
  refine s_box S13 rfl rfl ?_
  intro b20 w17 S18 hl19
  refine ⟨.of_le hl19, ?_⟩
  refine e_done (by kernel_rfl) ?_
  refine l_x rfl (x_as rfl) ?_
  refine l_nil ?_
  refine r_seq ?_
  refine r_seq ?_
  refine r_region ?_
  refine l_x rfl (x_fieldAddr rfl Try.runUnderlying24 rfl Try.sizeOf22 (by decide)) ?_
  refine l_x rfl (x_load rfl (ld_blk (S18.blk 0 rfl) Try.isAgg22 rfl)) ?_
  refine l_x rfl (x_len (hA.le S18.le) rfl Try.runUnderlying22) ?_
  refine l_x rfl (x_mv rfl) ?_
  refine l_nil ?_
  refine r_block ?_
  refine r_loop (G := Nat) (fun i => arcs.length - i) (fun i => [(2, .pointer (some ⟨b4, 0, none⟩)), (5, .pointer (some ⟨b8, 0, none⟩)), (1, vw), (23, va), (25, .int .i64 i), (24, .int .i64 arcs.length), (7, .pointer (some ⟨b20, 0, none⟩))]) (fun i w' => (i ≤ arcs.length) ∧ (∀ (j : Nat) (a : Arc), j < i → arcs[j]? = some a → a.lo ≤ a.hi) ∧ Own nob w w' [blk b4 [.int .i64 N, va] 24, blk b8 [.int .i64 0, .slice none 0 0] 43, vec EI v15 (pre (x0 arcs wl) 0 i), blk b20 (carC N va v15 vw (ex (arcs.take i) ((x0 arcs wl).take i)) fun _ => 0) 91]) 0 ⟨rfl, rfl, rfl, rfl, rfl, rfl, rfl, trivial⟩ ⟨Nat.zero_le _, fun j a h => absurd h (Nat.not_lt_zero j), (by rw [pre_zero, hxl, ex_zero]; exact S18)⟩ ?_
  rintro i ρ w1a ⟨hi, hle, S1a⟩ IHa
  refine r_seq ?_
  refine r_region ?_
  refine l_x rfl (x_lss rfl rfl) ?_
  refine l_nil ?_
  refine r_seq ?_
  refine r_ifd rfl (fun hc26 => ?_) (fun hc26 => ?_)
  · skip
    obtain ⟨a, ha⟩ : ∃ a, arcs[i]? = some a := ⟨_, List.getElem?_eq_getElem (by omega)⟩
    obtain ⟨q, hq0⟩ : ∃ q, wl[i]? = some q := ⟨_, List.getElem?_eq_getElem (by omega)⟩
    have hok := hV.at ha
    have hil : i < arcs.length := by omega
    refine r_skip ?_
    refine r_seq ?_
    refine r_block ?_
    refine r_seq ?_
    refine r_region ?_
    refine l_x rfl (x_mv rfl) ?_
    refine l_index EA rfl (hA.le S1a.le) rfl rfl Try.runUnderlying22 Try.sizeOf39 (by omega) (by first | assumption | exact List.getElem?_eq_getElem (by omega)) ?_
    intro b21 o22 hat23 row24
    refine l_x rfl (x_load rfl (ld_row Try.isAgg39 Try.sizeOf39 rfl row24)) ?_
    refine l_alloc S1a rfl Try.zeroValue39 rfl ?_
    intro b28 w25 S26 hl27
    refine l_x rfl (x_as rfl) ?_
    refine l_stores S26 4 rfl rfl rfl rfl (EA.one _) Try.sizeOf39 (by first | exact Nat.le_refl _ | simp) (splice_all rfl) ?_
    intro w29 S30 hk31
    refine l_nil ?_
    refine r_seq ?_
    refine r_seq ?_
    refine r_region ?_
    refine l_x rfl (x_fieldAddr rfl Try.runUnderlying39 rfl Try.sizeOf3 (by decide)) ?_
    refine l_x rfl (x_load rfl (ld_blk (S30.blk 4 rfl) Try.isAgg3 rfl)) ?_
    refine l_x rfl (x_fieldAddr rfl Try.runUnderlying39 rfl Try.sizeOf3 (by decide)) ?_
    refine l_x rfl (x_load rfl (ld_blk (S30.blk 4 rfl) Try.isAgg3 rfl)) ?_
    refine l_x rfl (x_gtr rfl rfl) ?_
    refine l_nil ?_
    refine r_ifd rfl (fun hc34 => ?_) (fun hc34 => ?_)
    · skip
      refine r_seq ?_
      refine r_region ?_
      refine l_x rfl (x_mv rfl) ?_
      refine l_x rfl (x_buildS (out := [_, _]) (ss := [1, 1]) Try.zeroValue43 rfl Try.runUnderlying43 ⟨Try.sizeOf3, Try.sizeOf25, trivial⟩ (fill_cons rfl rfl rfl (Nat.le_of_ble_eq_true rfl) fill_nil)) ?_
      refine l_x rfl (x_as rfl) ?_
      refine l_stores (vs := [_, _]) S30 1 rfl rfl rfl rfl (ones_cons rfl (ones_cons rfl ones_nil)) Try.sizeOf43 (by first | exact Nat.le_refl _ | simp) (splice_all rfl) ?_
      intro w32 S33 hk34
      refine l_x rfl (x_as rfl) ?_
      refine l_nil ?_
      refine r_ret (rs := [.tmp 4, .cell 5 43, .tmp 6]) [_, _, _] Try.func71 rfl ⟨rfl, ⟨_, rfl, (ld_blks (S33.blk 1 rfl) Try.isAgg43 Try.sizeOf43 rfl rfl)⟩, rfl, trivial⟩ ?_
      exact .inr ⟨(i : Int), _, [], rfl, New.nilvec .., S33.le, by rw [hind, if_pos (by omega), bad, Int.toNat_natCast, ha]; simp; omega⟩
    · skip
      refine r_skip ?_
      refine r_seq ?_
      refine r_drawR 8 Try.mixed (by kernel_rfl) ?_
      refine w_x rfl (fun w1 h1 => x_mv rfl) ?_
      refine w_x rfl (fun w1 h1 => x_nilCheck rfl) ?_
      refine w_x rfl (fun w1 h1 => x_fieldAddr rfl Try.runUnderlying91 rfl Try.sizeOf25 (by decide)) ?_
      refine w_x rfl (fun w1 h1 => x_load rfl (ld_blk ((S30.step h1).blk 3 rfl) Try.isAgg25 rfl)) ?_
      refine w_x rfl (fun w1 h1 => x_mv rfl) ?_
      refine w_x rfl (fun w1 h1 => x_fieldAddr rfl Try.runUnderlying39 rfl Try.sizeOf3 (by decide)) ?_
      refine w_x rfl (fun w1 h1 => x_load rfl (ld_blk ((S30.step h1).blk 4 rfl) Try.isAgg3 rfl)) ?_
      refine w_index EI rfl (vec_rd (S30.at 2 rfl)) rfl rfl Try.runUnderlying25 Try.sizeOf3 (by omega) (pre_get (by omega)) ?_
      intro b35 o36 hat37 row38
      refine w_nil ?_
      intro w39 hl40
      have S41 := S30.step hl40
      refine l_storevi (f := 0) S41 2 rfl rfl hat37 rfl rfl Try.sizeOf3 (pre_get (by omega)) (by decide) rfl ?_
      intro w42 S43 hk44
      refine l_nil ?_
      refine r_seq ?_
      refine r_seq ?_
      refine r_region ?_
      refine l_x rfl (x_mv rfl) ?_
      refine l_x rfl (x_mv rfl) ?_
      refine l_index EI rfl (Hw.le S43.le) rfl rfl Try.runUnderlying25 Try.sizeOf3 (by omega) (by first | assumption | exact List.getElem?_eq_getElem (by omega)) ?_
      intro b45 o46 hat47 row48
      refine l_x rfl (x_load rfl (ld_cell Try.isAgg3 (row48 0 _ rfl))) ?_
      refine l_x rfl (x_gtr rfl rfl) ?_
      refine l_nil ?_
      refine r_ifd rfl (fun hc49 => ?_) (fun hc49 => ?_)
      · skip
        refine r_drawR 8 Try.mixed (by kernel_rfl) ?_
        refine w_x rfl (fun w1 h1 => x_mv rfl) ?_
        refine w_x rfl (fun w1 h1 => x_nilCheck rfl) ?_
        refine w_x rfl (fun w1 h1 => x_fieldAddr rfl Try.runUnderlying91 rfl Try.sizeOf25 (by decide)) ?_
        refine w_x rfl (fun w1 h1 => x_load rfl (ld_blk ((S43.step h1).blk 3 rfl) Try.isAgg25 rfl)) ?_
        refine w_x rfl (fun w1 h1 => x_mv rfl) ?_
        refine w_x rfl (fun w1 h1 => x_fieldAddr rfl Try.runUnderlying39 rfl Try.sizeOf3 (by decide)) ?_
        refine w_x rfl (fun w1 h1 => x_load rfl (ld_blk ((S43.step h1).blk 4 rfl) Try.isAgg3 rfl)) ?_
        refine w_index EI rfl (vec_rd (S43.at 2 rfl)) rfl rfl Try.runUnderlying25 Try.sizeOf3 (by omega) (List.getElem?_set_self (by rw [pre_length (by omega)]; omega)) ?_
        intro b49 o50 hat51 row52
        refine w_nil ?_
        intro w53 hl54
        have S55 := S43.step hl54
        refine l_storevi (f := 0) S55 2 rfl rfl hat51 rfl rfl Try.sizeOf3 (List.getElem?_set_self (by rw [pre_length (by omega)]; omega)) (by decide) rfl ?_
        intro w56 S57 hk58
        refine l_nil ?_
        refine r_seq ?_
        have e : ((pre (x0 arcs wl) 0 i).set ((i : Nat) : Int).toNat a.lo).set ((i : Nat) : Int).toNat a.hi = pre (x0 arcs wl) 0 (i + 1) := by rw [List.set_set]; exact pre_step (by rw [x0_get arcs wl i a q ha hq0, if_pos hc49])
        have Sz := S57
        rw [e] at Sz
        obtain ⟨z, hz⟩ : ∃ z, (x0 arcs wl)[i]? = some z := ⟨_, x0_get arcs wl i a q ha hq0⟩
        have hzb := hxA.at hz
        have hb1 := ex_bd_take hV hxA i a.dst.toNat
        have hzg : (pre (x0 arcs wl) 0 (i + 1))[i]? = some z := pre_last hz
        refine r_drawR 18 Try.mixed (by kernel_rfl) ?_
        refine w_x rfl (fun w1 h1 => x_mv rfl) ?_
        refine w_x rfl (fun w1 h1 => x_fieldAddr rfl Try.runUnderlying39 rfl Try.sizeOf3 (by decide)) ?_
        refine w_x rfl (fun w1 h1 => x_load rfl (ld_blk ((Sz.step h1).blk 4 rfl) Try.isAgg3 rfl)) ?_
        refine w_x rfl (fun w1 h1 => x_nilCheck rfl) ?_
        refine w_x rfl (fun w1 h1 => x_fieldAddr rfl Try.runUnderlying91 rfl Try.sizeOf89 (by decide)) ?_
        refine w_x rfl (fun w1 h1 => x_indexAddr_array rfl rfl Try.runUnderlying89 Try.sizeOf3 (by omega)) ?_
        refine w_x rfl (fun w1 h1 => x_load rfl (ld_blk ((Sz.step h1).blk 3 rfl) Try.isAgg3 (carm_get rfl (by omega)))) ?_
        refine w_x rfl (fun w1 h1 => x_mv rfl) ?_
        refine w_x rfl (fun w1 h1 => x_nilCheck rfl) ?_
        refine w_x rfl (fun w1 h1 => x_fieldAddr rfl Try.runUnderlying91 rfl Try.sizeOf25 (by decide)) ?_
        refine w_x rfl (fun w1 h1 => x_load rfl (ld_blk ((Sz.step h1).blk 3 rfl) Try.isAgg25 rfl)) ?_
        refine w_x rfl (fun w1 h1 => x_mv rfl) ?_
        refine w_index EI rfl (vec_rd (Sz.at 2 rfl)) rfl rfl Try.runUnderlying25 Try.sizeOf3 (by omega) hzg ?_
        intro b59 o60 hat61 row62
        refine w_x rfl (fun w1 h1 => x_load rfl (ld_cell Try.isAgg3 ((row62.le h1) 0 _ rfl))) ?_
        refine w_x rfl (fun w1 h1 => x_add rfl rfl (by omega)) ?_
        refine w_x rfl (fun w1 h1 => x_nilCheck rfl) ?_
        refine w_x rfl (fun w1 h1 => x_fieldAddr rfl Try.runUnderlying91 rfl Try.sizeOf89 (by decide)) ?_
        refine w_x rfl (fun w1 h1 => x_indexAddr_array rfl rfl Try.runUnderlying89 Try.sizeOf3 (by omega)) ?_
        refine w_nil ?_
        intro w63 hl64
        have S65 := Sz.step hl64
        refine l_storeq S65 3 rfl rfl rfl rfl rfl Try.sizeOf3 (carm_lt rfl (by omega)) (carm_set rfl (by omega)) ?_
        intro w66 S67 hk68
        refine l_nil ?_
        have hb2 := ex_bd_take hV hxA i a.src.toNat
        have hb3 : -5000000000 ≤ upf (ex (arcs.take i) ((x0 arcs wl).take i)) a.dst.toNat (ex (arcs.take i) ((x0 arcs wl).take i) a.dst.toNat + z) a.src.toNat ∧ upf (ex (arcs.take i) ((x0 arcs wl).take i)) a.dst.toNat (ex (arcs.take i) ((x0 arcs wl).take i) a.dst.toNat + z) a.src.toNat ≤ 5000000000 := by
          unfold upf; split <;> omega
        refine r_drawR 18 Try.mixed (by kernel_rfl) ?_
        refine w_x rfl (fun w1 h1 => x_mv rfl) ?_
        refine w_x rfl (fun w1 h1 => x_fieldAddr rfl Try.runUnderlying39 rfl Try.sizeOf3 (by decide)) ?_
        refine w_x rfl (fun w1 h1 => x_load rfl (ld_blk ((S67.step h1).blk 4 rfl) Try.isAgg3 rfl)) ?_
        refine w_x rfl (fun w1 h1 => x_nilCheck rfl) ?_
        refine w_x rfl (fun w1 h1 => x_fieldAddr rfl Try.runUnderlying91 rfl Try.sizeOf89 (by decide)) ?_
        refine w_x rfl (fun w1 h1 => x_indexAddr_array rfl rfl Try.runUnderlying89 Try.sizeOf3 (by omega)) ?_
        refine w_x rfl (fun w1 h1 => x_load rfl (ld_blk ((S67.step h1).blk 3 rfl) Try.isAgg3 (carm_get rfl (by omega)))) ?_
        refine w_x rfl (fun w1 h1 => x_mv rfl) ?_
        refine w_x rfl (fun w1 h1 => x_nilCheck rfl) ?_
        refine w_x rfl (fun w1 h1 => x_fieldAddr rfl Try.runUnderlying91 rfl Try.sizeOf25 (by decide)) ?_
        refine w_x rfl (fun w1 h1 => x_load rfl (ld_blk ((S67.step h1).blk 3 rfl) Try.isAgg25 rfl)) ?_
        refine w_x rfl (fun w1 h1 => x_mv rfl) ?_
        refine w_index EI rfl (vec_rd (S67.at 2 rfl)) rfl rfl Try.runUnderlying25 Try.sizeOf3 (by omega) hzg ?_
        intro b69 o70 hat71 row72
        refine w_x rfl (fun w1 h1 => x_load rfl (ld_cell Try.isAgg3 ((row72.le h1) 0 _ rfl))) ?_
        refine w_x rfl (fun w1 h1 => x_sub rfl rfl (by omega)) ?_
        refine w_x rfl (fun w1 h1 => x_nilCheck rfl) ?_
        refine w_x rfl (fun w1 h1 => x_fieldAddr rfl Try.runUnderlying91 rfl Try.sizeOf89 (by decide)) ?_
        refine w_x rfl (fun w1 h1 => x_indexAddr_array rfl rfl Try.runUnderlying89 Try.sizeOf3 (by omega)) ?_
        refine w_nil ?_
        intro w73 hl74
        have S75 := S67.step hl74
        refine l_storeq S75 3 rfl rfl rfl rfl rfl Try.sizeOf3 (carm_lt rfl (by omega)) (carm_set rfl (by omega)) ?_
        intro w76 S77 hk78
        refine l_nil ?_
        refine r_inBlock ?_
        refine r_region ?_
        refine l_x rfl (x_add rfl rfl (by omega)) ?_
        refine l_x rfl (x_mv rfl) ?_
        refine l_nil ?_
        exact IHa (i + 1) _ _ (by omega) ⟨rfl, rfl, rfl, rfl, rfl, rfl, rfl, trivial⟩ ⟨by omega, le_step hle ha (by omega), (by rw [← ex_step ha hz (by omega) (by omega) rfl]; exact S77.take 4)⟩
      · skip
        refine r_skip ?_
        refine r_seq ?_
        have e : (pre (x0 arcs wl) 0 i).set ((i : Nat) : Int).toNat a.lo = pre (x0 arcs wl) 0 (i + 1) := pre_step (by rw [x0_get arcs wl i a q ha hq0, if_neg hc49])
        have Sz := S43
        rw [e] at Sz
        obtain ⟨z, hz⟩ : ∃ z, (x0 arcs wl)[i]? = some z := ⟨_, x0_get arcs wl i a q ha hq0⟩
        have hzb := hxA.at hz
        have hb1 := ex_bd_take hV hxA i a.dst.toNat
        have hzg : (pre (x0 arcs wl) 0 (i + 1))[i]? = some z := pre_last hz
        refine r_drawR 18 Try.mixed (by kernel_rfl) ?_
        refine w_x rfl (fun w1 h1 => x_mv rfl) ?_
        refine w_x rfl (fun w1 h1 => x_fieldAddr rfl Try.runUnderlying39 rfl Try.sizeOf3 (by decide)) ?_
        refine w_x rfl (fun w1 h1 => x_load rfl (ld_blk ((Sz.step h1).blk 4 rfl) Try.isAgg3 rfl)) ?_
        refine w_x rfl (fun w1 h1 => x_nilCheck rfl) ?_
        refine w_x rfl (fun w1 h1 => x_fieldAddr rfl Try.runUnderlying91 rfl Try.sizeOf89 (by decide)) ?_
        refine w_x rfl (fun w1 h1 => x_indexAddr_array rfl rfl Try.runUnderlying89 Try.sizeOf3 (by omega)) ?_
        refine w_x rfl (fun w1 h1 => x_load rfl (ld_blk ((Sz.step h1).blk 3 rfl) Try.isAgg3 (carm_get rfl (by omega)))) ?_
        refine w_x rfl (fun w1 h1 => x_mv rfl) ?_
        refine w_x rfl (fun w1 h1 => x_nilCheck rfl) ?_
        refine w_x rfl (fun w1 h1 => x_fieldAddr rfl Try.runUnderlying91 rfl Try.sizeOf25 (by decide)) ?_
        refine w_x rfl (fun w1 h1 => x_load rfl (ld_blk ((Sz.step h1).blk 3 rfl) Try.isAgg25 rfl)) ?_
        refine w_x rfl (fun w1 h1 => x_mv rfl) ?_
        refine w_index EI rfl (vec_rd (Sz.at 2 rfl)) rfl rfl Try.runUnderlying25 Try.sizeOf3 (by omega) hzg ?_
        intro b79 o80 hat81 row82
        refine w_x rfl (fun w1 h1 => x_load rfl (ld_cell Try.isAgg3 ((row82.le h1) 0 _ rfl))) ?_
        refine w_x rfl (fun w1 h1 => x_add rfl rfl (by omega)) ?_
        refine w_x rfl (fun w1 h1 => x_nilCheck rfl) ?_
        refine w_x rfl (fun w1 h1 => x_fieldAddr rfl Try.runUnderlying91 rfl Try.sizeOf89 (by decide)) ?_
        refine w_x rfl (fun w1 h1 => x_indexAddr_array rfl rfl Try.runUnderlying89 Try.sizeOf3 (by omega)) ?_
        refine w_nil ?_
        intro w83 hl84
        have S85 := Sz.step hl84
        refine l_storeq S85 3 rfl rfl rfl rfl rfl Try.sizeOf3 (carm_lt rfl (by omega)) (carm_set rfl (by omega)) ?_
        intro w86 S87 hk88
        refine l_nil ?_
        have hb2 := ex_bd_take hV hxA i a.src.toNat
        have hb3 : -5000000000 ≤ upf (ex (arcs.take i) ((x0 arcs wl).take i)) a.dst.toNat (ex (arcs.take i) ((x0 arcs wl).take i) a.dst.toNat + z) a.src.toNat ∧ upf (ex (arcs.take i) ((x0 arcs wl).take i)) a.dst.toNat (ex (arcs.take i) ((x0 arcs wl).take i) a.dst.toNat + z) a.src.toNat ≤ 5000000000 := by
          unfold upf; split <;> omega
        refine r_drawR 18 Try.mixed (by kernel_rfl) ?_
        refine w_x rfl (fun w1 h1 => x_mv rfl) ?_
        refine w_x rfl (fun w1 h1 => x_fieldAddr rfl Try.runUnderlying39 rfl Try.sizeOf3 (by decide)) ?_
        refine w_x rfl (fun w1 h1 => x_load rfl (ld_blk ((S87.step h1).blk 4 rfl) Try.isAgg3 rfl)) ?_
        refine w_x rfl (fun w1 h1 => x_nilCheck rfl) ?_
        refine w_x rfl (fun w1 h1 => x_fieldAddr rfl Try.runUnderlying91 rfl Try.sizeOf89 (by decide)) ?_
        refine w_x rfl (fun w1 h1 => x_indexAddr_array rfl rfl Try.runUnderlying89 Try.sizeOf3 (by omega)) ?_
        refine w_x rfl (fun w1 h1 => x_load rfl (ld_blk ((S87.step h1).blk 3 rfl) Try.isAgg3 (carm_get rfl (by omega)))) ?_
        refine w_x rfl (fun w1 h1 => x_mv rfl) ?_
        refine w_x rfl (fun w1 h1 => x_nilCheck rfl) ?_
        refine w_x rfl (fun w1 h1 => x_fieldAddr rfl Try.runUnderlying91 rfl Try.sizeOf25 (by decide)) ?_
        refine w_x rfl (fun w1 h1 => x_load rfl (ld_blk ((S87.step h1).blk 3 rfl) Try.isAgg25 rfl)) ?_
        refine w_x rfl (fun w1 h1 => x_mv rfl) ?_
        refine w_index EI rfl (vec_rd (S87.at 2 rfl)) rfl rfl Try.runUnderlying25 Try.sizeOf3 (by omega) hzg ?_
        intro b89 o90 hat91 row92
        refine w_x rfl (fun w1 h1 => x_load rfl (ld_cell Try.isAgg3 ((row92.le h1) 0 _ rfl))) ?_
        refine w_x rfl (fun w1 h1 => x_sub rfl rfl (by omega)) ?_
        refine w_x rfl (fun w1 h1 => x_nilCheck rfl) ?_
        refine w_x rfl (fun w1 h1 => x_fieldAddr rfl Try.runUnderlying91 rfl Try.sizeOf89 (by decide)) ?_
        refine w_x rfl (fun w1 h1 => x_indexAddr_array rfl rfl Try.runUnderlying89 Try.sizeOf3 (by omega)) ?_
        refine w_nil ?_
        intro w93 hl94
        have S95 := S87.step hl94
        refine l_storeq S95 3 rfl rfl rfl rfl rfl Try.sizeOf3 (carm_lt rfl (by omega)) (carm_set rfl (by omega)) ?_
        intro w96 S97 hk98
        refine l_nil ?_
        refine r_inBlock ?_
        refine r_region ?_
        refine l_x rfl (x_add rfl rfl (by omega)) ?_
        refine l_x rfl (x_mv rfl) ?_
        refine l_nil ?_
        exact IHa (i + 1) _ _ (by omega) ⟨rfl, rfl, rfl, rfl, rfl, rfl, rfl, trivial⟩ ⟨by omega, le_step hle ha (by omega), (by rw [← ex_step ha hz (by omega) (by omega) rfl]; exact S97.take 4)⟩
  · skip
    have hie : i = arcs.length := by omega
    subst hie
    have hpf : pre (x0 arcs wl) 0 arcs.length = x0 arcs wl := by rw [← hxl]; exact pre_full
    rw [hpf, List.take_length, List.take_of_length_le (by omega)] at S1a
    refine r_exit rfl ?_
    refine r_seq ?_
    refine r_block ?_
    refine r_loop (G := List Int × (Nat → Int) × (Nat → Int)) (fun ⟨x, mo, p⟩ => tot mo) (fun ⟨x, mo, p⟩ => [(2, .pointer (some ⟨b4, 0, none⟩)), (5, .pointer (some ⟨b8, 0, none⟩)), (7, .pointer (some ⟨b20, 0, none⟩))]) (fun ⟨x, mo, p⟩ w' => (Cn N arcs wl x mo p) ∧ Own nob w w' [blk b4 [.int .i64 N, va] 24, blk b8 [.int .i64 0, .slice none 0 0] 43, blk b20 (carC N va v15 vw mo p) 91, vec EI v15 x]) (x0 arcs wl, ex arcs (x0 arcs wl), fun _ => 0) ⟨rfl, rfl, rfl, trivial⟩ ⟨Cn.start hw0 fun a ha => by obtain ⟨j, hj⟩ := List.getElem?_of_mem ha; exact hle j a (List.getElem?_eq_some_iff.1 hj).1 hj, (S1a.pick [0, 1, 3, 2] (by decide) rfl)⟩ ?_
    rintro ⟨x, mo, p⟩ ρ w1b ⟨hC, S1b⟩ IHb
    refine r_seq ?_
    refine r_seq ?_
    refine r_region ?_
    refine l_x rfl (x_mv rfl) ?_
    refine l_x rfl (x_nilCheck rfl) ?_
    refine l_x rfl (x_fieldAddr rfl Try.runUnderlying91 rfl Try.sizeOf89 (by decide)) ?_
    refine l_x rfl (x_sliceall rfl Try.runUnderlying89 Try.sizeOf3) ?_
    refine l_call [] [] [_] rfl rfl Try.call120 rfl (c_Max _ N va _ vw mo p _ (S1b.blk 2 rfl)) ?_
    rintro _ w99 ⟨mx, rfl, hml, hmx⟩
    have S100 := S1b.step hml
    refine l_x rfl (x_gtr rfl rfl) ?_
    refine l_nil ?_
    refine r_ifd rfl (fun hc100 => ?_) (fun hc100 => ?_)
    · skip
      refine r_skip ?_
      refine r_block ?_
      refine r_seq ?_
      refine r_region ?_
      refine l_x rfl (x_mv rfl) ?_
      have S101 := Own.pack (A := [_, _]) (L := [_, _]) S100
      refine l_call [] [] [_] rfl rfl Try.call121 rfl (c_lead N va arcs v15 x vw wl mo p hV hw0 hC b20 _ w (fun b hb => (S101.bd 2 _ rfl b hb).2.resolve_right id) hA Hw _ ((S101.lend 2 rfl).open) S100.le) ?_
      rintro _ w102 (⟨vc, cost, last, rk, rfl, hO, hn, hno⟩ | ⟨x', mo', p', rfl, hO, hC', ht⟩)
      · skip
        have S104 := Own.unpack (A := [_, _]) (L := [_, _, _]) (S101.back 2 rfl hO.close)
        refine l_x rfl (x_mv rfl) ?_
        refine l_x rfl (x_extract rfl rfl) ?_
        refine l_x rfl (x_extract rfl rfl) ?_
        refine l_x rfl (x_as rfl) ?_
        refine l_x rfl (x_as rfl) ?_
        refine l_nil ?_
        refine r_seq ?_
        refine r_seq ?_
        refine r_region ?_
        refine l_x rfl (x_mv rfl) ?_
        refine l_nil ?_
        refine r_false rfl ?_
        refine r_skip ?_
        refine r_seq ?_
        refine r_region ?_
        refine l_x rfl (x_buildS (out := [_, _]) (ss := [1, 1]) Try.zeroValue43 rfl Try.runUnderlying43 ⟨Try.sizeOf3, Try.sizeOf25, trivial⟩ (fill_cons rfl rfl rfl (Nat.le_of_ble_eq_true rfl) fill_nil)) ?_
        refine l_alloc S104 rfl Try.zeroValue43 rfl ?_
        intro b108 w105 S106 hl107
        refine l_stores (vs := [_, _]) S106 5 rfl rfl rfl rfl (ones_cons rfl (ones_cons rfl ones_nil)) Try.sizeOf43 (by first | exact Nat.le_refl _ | simp) (splice_all rfl) ?_
        intro w109 S110 hk111
        refine l_nil ?_
        refine r_seq ?_
        refine r_seq ?_
        have Sn := S110.nilvec (E := EI)
        refine r_region ?_
        refine l_x rfl (x_mv rfl) ?_
        refine l_x rfl (x_nilCheck rfl) ?_
        refine l_x rfl (x_fieldAddr rfl Try.runUnderlying91 rfl Try.sizeOf24 (by decide)) ?_
        refine l_x rfl (x_fieldAddr rfl Try.runUnderlying24 rfl Try.sizeOf3 (by decide)) ?_
        refine l_x rfl (x_load rfl (ld_blk (Sn.blk 2 rfl) Try.isAgg3 rfl)) ?_
        refine l_x rfl (x_mv rfl) ?_
        refine l_nil ?_
        refine r_block ?_
        refine r_loop (G := Nat × Value) (fun ⟨i, vn⟩ => N.toNat - i) (fun ⟨i, vn⟩ => [(2, .pointer (some ⟨b4, 0, none⟩)), (5, .pointer (some ⟨b8, 0, none⟩)), (7, .pointer (some ⟨b20, 0, none⟩)), (11, vc), (12, .pointer (some ⟨b108, 0, none⟩)), (113, .int .i64 i), (112, .int .i64 N)]) (fun ⟨i, vn⟩ w' => (i ≤ N.toNat) ∧ Own nob w w' [blk b4 [.int .i64 N, va] 24, blk b8 [.int .i64 0, .slice none 0 0] 43, blk b20 (carC N va v15 vw mo p) 91, vec EI v15 x, vec EI vc cost, blk b108 [.int .i64 (-1), vn] 43, vec EI vn (und cost i)]) (0, .slice none 0 0) ⟨rfl, rfl, rfl, rfl, rfl, rfl, rfl, trivial⟩ ⟨Nat.zero_le _, (Sn.take 7)⟩ ?_
        rintro ⟨i, vn⟩ ρ w1c ⟨hi, S1c⟩ IHc
        refine r_seq ?_
        refine r_region ?_
        refine l_x rfl (x_lss rfl rfl) ?_
        refine l_nil ?_
        refine r_seq ?_
        refine r_ifd rfl (fun hc114 => ?_) (fun hc114 => ?_)
        · skip
          have hil : i < N.toNat := by omega
          refine r_skip ?_
          refine r_seq ?_
          refine r_block ?_
          refine r_seq ?_
          refine r_region ?_
          refine l_x rfl (x_mv rfl) ?_
          refine l_x rfl (x_as rfl) ?_
          refine l_nil ?_
          refine r_seq ?_
          refine r_region ?_
          refine l_x rfl (x_mv rfl) ?_
          refine l_x rfl (x_mv rfl) ?_
          refine l_index EI rfl (vec_rd (S1c.at 4 rfl)) rfl rfl Try.runUnderlying25 Try.sizeOf3 (by omega) (nth_get (by have := hn.lc; omega)) ?_
          intro b112 o113 hat114 row115
          refine l_x rfl (x_load rfl (ld_cell Try.isAgg3 (row115 0 _ rfl))) ?_
          refine l_x rfl (x_geq rfl rfl) ?_
          refine l_nil ?_
          refine r_ifd rfl (fun hc120 => ?_) (fun hc120 => ?_)
          · skip
            refine r_region ?_
            refine l_x rfl (x_fieldAddr rfl Try.runUnderlying43 rfl Try.sizeOf25 (by decide)) ?_
            refine l_x rfl (x_load rfl (ld_blk (S1c.blk 5 rfl) Try.isAgg25 rfl)) ?_
            refine l_x rfl (x_mv rfl) ?_
            refine l_buildSlice EI [_] S1c rfl Try.runUnderlying25 Try.sizeOf3 Try.zeroValue3 rfl ⟨rfl, rfl, trivial⟩ (Nat.le_of_ble_eq_true rfl) ?_
            intro v119 w116 S117 hl118
            refine l_append EI S117 6 rfl rfl rfl rfl (vec_rd (S117.at 7 rfl)) Try.underlying25 info3 rfl rfl rfl (by have := und_len cost i; unfold maxLen; rw [List.length_singleton]; omega) (by have := und_len cost i; rw [List.length_singleton]; show _ * 8 ≤ _; omega) ?_
            intro v123 w120 S121 hk122 hv124
            refine l_x rfl (x_fieldAddr rfl Try.runUnderlying43 rfl Try.sizeOf25 (by decide)) ?_
            refine l_storeq (c' := [_, _]) (v := v123) S121 5 rfl rfl rfl rfl (Rd.one (vec_rd (S121.at 6 rfl))) Try.sizeOf25 (by simp) rfl ?_
            intro w125 S126 hk127
            refine l_nil ?_
            refine r_inBlock ?_
            refine r_region ?_
            refine l_x rfl (x_add rfl rfl (by omega)) ?_
            refine l_x rfl (x_mv rfl) ?_
            refine l_nil ?_
            exact IHc (i + 1, v123) _ _ (by dsimp only; omega) ⟨rfl, rfl, rfl, rfl, rfl, rfl, rfl, trivial⟩ ⟨by omega, (by rw [und_in (i := i) (Int.not_lt.2 hc120)]; exact S126.take 7)⟩
          · skip
            refine r_skip ?_
            refine r_inBlock ?_
            refine r_region ?_
            refine l_x rfl (x_add rfl rfl (by omega)) ?_
            refine l_x rfl (x_mv rfl) ?_
            refine l_nil ?_
            exact IHc (i + 1, vn) _ _ (by dsimp only; omega) ⟨rfl, rfl, rfl, rfl, rfl, rfl, rfl, trivial⟩ ⟨by omega, (by rw [und_out (i := i) (Int.not_le.1 hc120)]; exact S1c.take 7)⟩
        · skip
          have hie : i = N.toNat := by omega
          subst hie
          refine r_exit rfl ?_
          refine r_seq ?_
          refine r_drawR 2 Try.mixed (by kernel_rfl) ?_
          refine w_x rfl (fun w1 h1 => x_load rfl (ld_blks ((S1c.step h1).blk 5 rfl) Try.isAgg43 Try.sizeOf43 rfl rfl)) ?_
          refine w_x rfl (fun w1 h1 => x_as rfl) ?_
          refine w_nil ?_
          intro w128 hl129
          have S130 := S1c.step hl129
          refine l_stores (vs := [_, _]) S130 1 rfl rfl rfl rfl (ones_cons rfl (ones_cons (Rd.one (vec_rd (S130.at 6 rfl))) ones_nil)) Try.sizeOf43 (by first | exact Nat.le_refl _ | simp) (splice_all rfl) ?_
          intro w131 S132 hk133
          refine l_x rfl (x_as rfl) ?_
          refine l_nil ?_
          refine r_ret (rs := [.tmp 4, .cell 5 43, .tmp 6]) [_, _, _] Try.func71 rfl ⟨rfl, ⟨_, rfl, (ld_blks (S132.blk 1 rfl) Try.isAgg43 Try.sizeOf43 rfl rfl)⟩, rfl, trivial⟩ ?_
          exact .inr ⟨-1, _, _, rfl, S132.new 6 rfl, S132.le, obst hC hV hw0 hn hno (hmx.1 hc100)⟩
      · skip
        have S134 := Own.unpack (A := [_, _]) (L := [_, _]) (S101.back 2 rfl hO.close)
        refine l_x rfl (x_mv rfl) ?_
        refine l_x rfl (x_extract rfl rfl) ?_
        refine l_x rfl (x_extract rfl rfl) ?_
        refine l_x rfl (x_as rfl) ?_
        refine l_x rfl (x_as rfl) ?_
        refine l_nil ?_
        refine r_seq ?_
        refine r_seq ?_
        refine r_region ?_
        refine l_x rfl (x_mv rfl) ?_
        refine l_nil ?_
        refine r_true rfl ?_
        refine r_exit rfl ?_
        exact IHb (x', mo', p') _ _ (by dsimp only; exact ht) ⟨rfl, rfl, rfl, trivial⟩ ⟨hC', S134⟩
    · skip
      refine r_exit rfl ?_
      refine r_seq ?_
      refine r_region ?_
      refine l_x rfl (x_mv rfl) ?_
      refine l_x rfl (x_buildS (out := [_, _]) (ss := [1, 1]) Try.zeroValue43 rfl Try.runUnderlying43 ⟨Try.sizeOf3, Try.sizeOf25, trivial⟩ fill_nil) ?_
      refine l_x rfl (x_as rfl) ?_
      refine l_stores (vs := [_, _]) S100 1 rfl rfl rfl rfl (ones_cons rfl (ones_cons rfl ones_nil)) Try.sizeOf43 (by first | exact Nat.le_refl _ | simp) (splice_all rfl) ?_
      intro w135 S136 hk137
      refine l_x rfl (x_as rfl) ?_
      refine l_nil ?_
      refine r_ret (rs := [.tmp 4, .cell 5 43, .tmp 6]) [_, _, _] Try.func71 rfl ⟨rfl, ⟨_, rfl, (ld_blks (S136.blk 1 rfl) Try.isAgg43 Try.sizeOf43 rfl rfl)⟩, rfl, trivial⟩ ?_
      exact .inl ⟨_, _, x, mo, p, rfl, S136.pick [2, 3] (by decide) rfl, hC, fun u hu => by rcases Int.lt_or_le 0 (mo u) with h | h; exact absurd (hmx.2 ⟨u, hu, h⟩) hc100; exact h⟩

end Go.Proofs
