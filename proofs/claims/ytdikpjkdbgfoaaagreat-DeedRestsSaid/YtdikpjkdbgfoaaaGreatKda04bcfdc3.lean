/- Texts joined for claims: LRests. -/
import Derived.Test.YtdikpjkdbgfoaaaGreatK8379bea0ad
import Derived.Test.YtdikpjkdbgfoaaaGreatK4dc53b4c00
/-
  Contracts of functions of the program: each by symbolic execution of its text.
-/
namespace Go.Proofs
open Go Go.Vk Go.Vk.Flow

open Go.Vk.Deed
theorem acc_bd {s : St} (hB : StB s) (o day : Int) : (-2000000000000 ≤ (acc s o day).holds ∧ (acc s o day).holds ≤ 2000000000000) ∧ (-2000000000000 ≤ (acc s o day).out ∧ (acc s o day).out ≤ 2000000000000) ∧ (-2000000000000 ≤ (acc s o day).inn ∧ (acc s o day).inn ≤ 2000000000000) := by
  have h1 := hB.outS (o := o) (day := day)
  have h3 := hB.hb o
  have h4 := hB.inS (o := o) (day := day)
  simp only [acc]; omega
theorem only_bd {l : List D} {known day : Int} {is : List Int} (hR : rightD l = true) {a : Acc} (ha : a ∈ onlyD l known day is) : (-2000000000000 ≤ a.holds ∧ a.holds ≤ 2000000000000) ∧ (-2000000000000 ≤ a.out ∧ a.out ≤ 2000000000000) ∧ (-2000000000000 ≤ a.inn ∧ a.inn ≤ 2000000000000) := by
  rw [onlyD, if_pos hR] at ha
  have hP := (((right_play (known := known) hR).filter fun x => is.contains x.id).filter fun x => decide (x.day ≤ day))
  have hB : StB (doneD ((counting l known).filter fun x => is.contains x.id) day) := (play_inv _ rfl hP).stb hP.e hP.len
  obtain ⟨o, _, rfl⟩ := List.mem_map.1 (List.mem_filter.1 ha).1
  exact acc_bd hB o day
theorem only_len (l : List D) (known day : Int) (is : List Int) : (onlyD l known day is).length ≤ 40 := by
  unfold onlyD
  split
  · have h1 := List.length_filter_le (fun a : Acc => decide (a ≠ ⟨a.owner, 0, 0, 0, 0⟩)) (owners.map fun o => acc (doneD ((counting l known).filter fun x => is.contains x.id) day) o day)
    rw [List.length_map, owners_len] at h1
    exact h1
  · exact Nat.zero_le _
theorem found_take {o : Int} {l : List Acc} {i : Nat} {a : Acc} (ha : l[i]? = some a) : foundS o 0 (l.take (i + 1)) = if a.owner = o then a.holds - a.out + a.inn else foundS o 0 (l.take i) := by
  rw [List.take_add_one, ha]; exact foundS_snoc

set_option maxHeartbeats 4000000 in
/-- couchant/couchantlaw02.DeedRests. -/
theorem lawRests (rs : List Rw) (vl : Value) (day o of : Int) (w : World) (hD : DsR 26 3 w vl rs) :
    Cl Tryz.prog 18 #[vl, .int .i64 day, .int .i64 o, .int .i64 of] w fun v w' => v = .bool true ∧ Le w w' := by
  refine fn_of_run (args := [_, _, _, _]) 118 Tryz.func18 rfl rfl rfl fun cs => ?_
  have S := Own.start (X := nob) w
  refine r_seq ?_
  refine r_region ?_
  refine l_x rfl (x_as rfl) ?_
  refine l_nil ?_
  refine r_seq ?_
  refine r_seq ?_
  refine r_region ?_
  refine l_x rfl (x_mv rfl) ?_
  refine l_call [] [] [_] rfl rfl Tryz.call41 rfl (c_valid rs _ _ (hD.le S.le)) ?_
  rintro _ w1 ⟨rfl, hl3⟩
  have S2 := S.step hl3
  refine l_x rfl (x_not rfl) ?_
  refine l_x rfl (x_mv rfl) ?_
  refine l_split (d := 20) rfl (fun hg20 => ?_) (fun hg20 => ?_)
  · skip
    refine l_pass rfl ?_
    refine l_pass rfl ?_
    refine l_pass rfl ?_
    refine l_x rfl (x_pick_t rfl rfl) ?_
    refine l_x rfl (x_mv rfl) ?_
    refine l_pass rfl ?_
    refine l_pass rfl ?_
    refine l_x rfl (x_pick_t rfl rfl) ?_
    refine l_x rfl (x_mv rfl) ?_
    refine l_pass rfl ?_
    refine l_pass rfl ?_
    refine l_x rfl (x_pick_t rfl rfl) ?_
    refine l_nil ?_
    refine r_true rfl ?_
    refine r_seq ?_
    refine r_region ?_
    refine l_call [] [] [] rfl rfl Tryz.call23 rfl (c_enteredX _) ?_
    rintro _ w4 ⟨rfl, hl6⟩
    have S5 := S2.step hl6
    refine l_x rfl (x_as rfl) ?_
    refine l_nil ?_
    refine r_ret (rs := [.tmp 8]) [_] Tryz.func18 rfl ⟨rfl, trivial⟩ ?_
    exact ⟨rfl, S5.le⟩
  · skip
    have hV : fewB (dl rs) = true ∧ rightD (dl rs) = true := by simpa using hg20
    have hR := hV.2
    refine l_x rfl (x_mv rfl) ?_
    refine l_x rfl (x_len (hD.rd.le S2.le) rfl Tryz.runUnderlying23) ?_
    refine l_x rfl (x_eql rfl rfl) ?_
    refine l_x rfl (x_pick_f rfl rfl) ?_
    refine l_x rfl (x_mv rfl) ?_
    refine l_splitd (d := 25) rfl (fun hg25 => ?_) (fun hg25 => ?_)
    · skip
      refine l_pass rfl ?_
      refine l_pass rfl ?_
      refine l_x rfl (x_pick_t rfl rfl) ?_
      refine l_x rfl (x_mv rfl) ?_
      refine l_pass rfl ?_
      refine l_pass rfl ?_
      refine l_x rfl (x_pick_t rfl rfl) ?_
      refine l_nil ?_
      refine r_true rfl ?_
      refine r_seq ?_
      refine r_region ?_
      refine l_call [] [] [] rfl rfl Tryz.call23 rfl (c_enteredX _) ?_
      rintro _ w7 ⟨rfl, hl9⟩
      have S8 := S2.step hl9
      refine l_x rfl (x_as rfl) ?_
      refine l_nil ?_
      refine r_ret (rs := [.tmp 8]) [_] Tryz.func18 rfl ⟨rfl, trivial⟩ ?_
      exact ⟨rfl, S8.le⟩
    · skip
      refine l_x rfl (x_mv rfl) ?_
      refine l_x rfl (x_lss rfl rfl) ?_
      refine l_x rfl (x_pick_f rfl rfl) ?_
      refine l_x rfl (x_mv rfl) ?_
      refine l_splitd (d := 29) rfl (fun hg29 => ?_) (fun hg29 => ?_)
      · skip
        refine l_pass rfl ?_
        refine l_pass rfl ?_
        refine l_x rfl (x_pick_t rfl rfl) ?_
        refine l_nil ?_
        refine r_true rfl ?_
        refine r_seq ?_
        refine r_region ?_
        refine l_call [] [] [] rfl rfl Tryz.call23 rfl (c_enteredX _) ?_
        rintro _ w10 ⟨rfl, hl12⟩
        have S11 := S2.step hl12
        refine l_x rfl (x_as rfl) ?_
        refine l_nil ?_
        refine r_ret (rs := [.tmp 8]) [_] Tryz.func18 rfl ⟨rfl, trivial⟩ ?_
        exact ⟨rfl, S11.le⟩
      · skip
        refine l_x rfl (x_mv rfl) ?_
        refine l_x rfl (x_gtr rfl rfl) ?_
        refine l_x rfl (x_pick_f rfl rfl) ?_
        refine l_nil ?_
        refine r_ifd rfl (fun hc32 => ?_) (fun hc32 => ?_)
        · skip
          refine r_seq ?_
          refine r_region ?_
          refine l_call [] [] [] rfl rfl Tryz.call23 rfl (c_enteredX _) ?_
          rintro _ w13 ⟨rfl, hl15⟩
          have S14 := S2.step hl15
          refine l_x rfl (x_as rfl) ?_
          refine l_nil ?_
          refine r_ret (rs := [.tmp 8]) [_] Tryz.func18 rfl ⟨rfl, trivial⟩ ?_
          exact ⟨rfl, S14.le⟩
        · skip
          refine r_skip ?_
          refine r_seq ?_
          obtain ⟨y, hy⟩ : ∃ y, rs[((rs.length : Int) - 1).toNat]? = some y := ⟨_, List.getElem?_eq_getElem (by omega)⟩
          have ho : own o = true := own_iff.2 (by omega)
          have hlr := right_len hR
          rw [dl_len] at hlr
          refine r_region ?_
          refine l_x rfl (x_mv rfl) ?_
          refine l_x rfl (x_mv rfl) ?_
          refine l_x rfl (x_len (hD.rd.le S2.le) rfl Tryz.runUnderlying23) ?_
          refine l_x rfl (x_sub rfl rfl (by omega)) ?_
          refine l_index ED rfl (hD.rd.le S2.le) rfl rfl Tryz.runUnderlying23 Tryz.sizeOf26 (by omega) hy ?_
          intro b16 o17 hat18 row19
          refine l_x rfl (x_fieldAddr rfl Tryz.runUnderlying26 rfl Tryz.sizeOf3 (by decide)) ?_
          refine l_x rfl (x_load rfl (ld_cell Tryz.isAgg3 (row19 2 _ rfl))) ?_
          refine l_x rfl (x_as rfl) ?_
          refine l_nil ?_
          refine r_seq ?_
          refine r_region ?_
          refine l_x rfl (x_mv rfl) ?_
          refine l_x rfl (x_mv rfl) ?_
          refine l_x rfl (x_mv rfl) ?_
          refine l_x rfl (x_mv rfl) ?_
          refine l_call [] [] [_, _, _, _] rfl rfl Tryz.call44 rfl (c_Lineage rs vl y.1.known day o _ (hD.le S2.le)) ?_
          rintro v4520 w20 ⟨hN4520, hl4520⟩
          have S21 := S2.add hl4520 hN4520
          refine l_x rfl (x_as rfl) ?_
          refine l_nil ?_
          refine r_seq ?_
          refine r_region ?_
          refine l_x rfl (x_mv rfl) ?_
          refine l_x rfl (x_mv rfl) ?_
          refine l_x rfl (x_mv rfl) ?_
          refine l_x rfl (x_mv rfl) ?_
          refine l_call [] [] [_, _, _, _] rfl rfl Tryz.call36 rfl (c_Uses rs vl y.1.known day o _ (hD.le S21.le)) ?_
          rintro _ w22 ⟨rfl, hl24⟩
          have S23 := S21.step hl24
          refine l_x rfl (x_as rfl) ?_
          refine l_nil ?_
          refine r_seq ?_
          refine r_region ?_
          refine l_x rfl (x_mv rfl) ?_
          refine l_x rfl (x_mv rfl) ?_
          refine l_x rfl (x_mv rfl) ?_
          refine l_x rfl (x_mv rfl) ?_
          refine l_call [] [] [_, _, _, _] rfl rfl Tryz.call73 rfl (c_Only rs vl y.1.known day (lineageD (dl rs) y.1.known day o) _ (by have := lin_len (dl rs) y.1.known day o hR; omega) _ (hD.le S23.le) (vec_rd (S23.at 0 rfl))) ?_
          rintro v5525 w25 ⟨hN5525, hl5525⟩
          have S26 := S23.add hl5525 hN5525
          refine l_x rfl (x_as rfl) ?_
          refine l_nil ?_
          refine r_seq ?_
          refine r_region ?_
          refine l_x rfl (x_as rfl) ?_
          refine l_nil ?_
          refine r_seq ?_
          refine r_seq ?_
          refine r_region ?_
          refine l_x rfl (x_as rfl) ?_
          refine l_nil ?_
          refine r_block ?_
          refine r_loop (G := Nat) (fun i => (onlyD (dl rs) y.1.known day (lineageD (dl rs) y.1.known day o)).length - i) (fun i => [(0, vl), (1, .int .i64 day), (2, .int .i64 o), (3, .int .i64 of), (9, .int .i64 y.1.known), (10, v4520), (11, .int .i64 (usesD (dl rs) y.1.known day o)), (12, v5525), (13, .int .i64 (foundS o 0 ((onlyD (dl rs) y.1.known day (lineageD (dl rs) y.1.known day o)).take i))), (14, .int .i64 i)]) (fun i w' => (i ≤ (onlyD (dl rs) y.1.known day (lineageD (dl rs) y.1.known day o)).length) ∧ Own nob w w' [vec EI v4520 (lineageD (dl rs) y.1.known day o), vec EAC v5525 (onlyD (dl rs) y.1.known day (lineageD (dl rs) y.1.known day o))]) 0 ⟨rfl, rfl, rfl, rfl, rfl, rfl, rfl, rfl, rfl, rfl, trivial⟩ ⟨Nat.zero_le _, (S26.take 2)⟩ ?_
          rintro i ρ w1 ⟨hi, S1⟩ IH
          refine r_seq ?_
          refine r_seq ?_
          refine r_region ?_
          refine l_x rfl (x_mv rfl) ?_
          refine l_x rfl (x_mv rfl) ?_
          refine l_x rfl (x_len (vec_rd (S1.at 1 rfl)) rfl Tryz.runUnderlying74) ?_
          refine l_x rfl (x_lss rfl rfl) ?_
          refine l_nil ?_
          refine r_ifd rfl (fun hc59 => ?_) (fun hc59 => ?_)
          · skip
            have hol := only_len (dl rs) y.1.known day (lineageD (dl rs) y.1.known day o)
            obtain ⟨x, hx⟩ : ∃ x, (onlyD (dl rs) y.1.known day (lineageD (dl rs) y.1.known day o))[i]? = some x := ⟨_, List.getElem?_eq_getElem (by omega)⟩
            have hxb := only_bd hR (List.mem_of_getElem? hx)
            refine r_skip ?_
            refine r_seq ?_
            refine r_block ?_
            refine r_seq ?_
            refine r_region ?_
            refine l_x rfl (x_mv rfl) ?_
            refine l_x rfl (x_mv rfl) ?_
            refine l_index EAC rfl (vec_rd (S1.at 1 rfl)) rfl rfl Tryz.runUnderlying74 Tryz.sizeOf66 (by omega) hx ?_
            intro b27 o28 hat29 row30
            refine l_x rfl (x_fieldAddr rfl Tryz.runUnderlying66 rfl Tryz.sizeOf3 (by decide)) ?_
            refine l_x rfl (x_load rfl (ld_cell Tryz.isAgg3 (row30 0 _ rfl))) ?_
            refine l_x rfl (x_mv rfl) ?_
            refine l_x rfl (x_eql rfl rfl) ?_
            refine l_nil ?_
            refine r_ifd rfl (fun hc68 => ?_) (fun hc68 => ?_)
            · skip
              refine r_drawR 18 Tryz.mixed (by kernel_rfl) ?_
              refine w_x rfl (fun w1 h1 => x_mv rfl) ?_
              refine w_x rfl (fun w1 h1 => x_mv rfl) ?_
              refine w_index EAC rfl (vec_rd (S1.at 1 rfl)) rfl rfl Tryz.runUnderlying74 Tryz.sizeOf66 (by omega) hx ?_
              intro b31 o32 hat33 row34
              refine w_x rfl (fun w1 h1 => x_fieldAddr rfl Tryz.runUnderlying66 rfl Tryz.sizeOf3 (by decide)) ?_
              refine w_x rfl (fun w1 h1 => x_load rfl (ld_cell Tryz.isAgg3 ((row34.le h1) 1 _ rfl))) ?_
              refine w_x rfl (fun w1 h1 => x_mv rfl) ?_
              refine w_x rfl (fun w1 h1 => x_mv rfl) ?_
              refine w_index EAC rfl (vec_rd (S1.at 1 rfl)) rfl rfl Tryz.runUnderlying74 Tryz.sizeOf66 (by omega) hx ?_
              intro b35 o36 hat37 row38
              refine w_x rfl (fun w1 h1 => x_fieldAddr rfl Tryz.runUnderlying66 rfl Tryz.sizeOf3 (by decide)) ?_
              refine w_x rfl (fun w1 h1 => x_load rfl (ld_cell Tryz.isAgg3 ((row38.le h1) 3 _ rfl))) ?_
              refine w_x rfl (fun w1 h1 => x_sub rfl rfl (by omega)) ?_
              refine w_x rfl (fun w1 h1 => x_mv rfl) ?_
              refine w_x rfl (fun w1 h1 => x_mv rfl) ?_
              refine w_index EAC rfl (vec_rd (S1.at 1 rfl)) rfl rfl Tryz.runUnderlying74 Tryz.sizeOf66 (by omega) hx ?_
              intro b39 o40 hat41 row42
              refine w_x rfl (fun w1 h1 => x_fieldAddr rfl Tryz.runUnderlying66 rfl Tryz.sizeOf3 (by decide)) ?_
              refine w_x rfl (fun w1 h1 => x_load rfl (ld_cell Tryz.isAgg3 ((row42.le h1) 4 _ rfl))) ?_
              refine w_x rfl (fun w1 h1 => x_add rfl rfl (by omega)) ?_
              refine w_x rfl (fun w1 h1 => x_as rfl) ?_
              refine w_nil ?_
              intro w43 hl44
              have S45 := S1.step hl44
              refine l_nil ?_
              refine r_inBlock ?_
              refine r_region ?_
              refine l_x rfl (x_mv rfl) ?_
              refine l_x rfl (x_add rfl rfl (by omega)) ?_
              refine l_x rfl (x_as rfl) ?_
              refine l_nil ?_
              exact IH (i + 1) _ _ (by omega) ⟨rfl, rfl, rfl, rfl, rfl, rfl, rfl, rfl, (congrArg (Value.int .i64) (by rw [found_take hx, if_pos hc68])), rfl, trivial⟩ ⟨by omega, (S45.take 2)⟩
            · skip
              refine r_skip ?_
              refine r_inBlock ?_
              refine r_region ?_
              refine l_x rfl (x_mv rfl) ?_
              refine l_x rfl (x_add rfl rfl (by omega)) ?_
              refine l_x rfl (x_as rfl) ?_
              refine l_nil ?_
              exact IH (i + 1) _ _ (by omega) ⟨rfl, rfl, rfl, rfl, rfl, rfl, rfl, rfl, (congrArg (Value.int .i64) (by rw [found_take hx, if_neg hc68])), rfl, trivial⟩ ⟨by omega, (S1.take 2)⟩
          · skip
            obtain rfl : i = (onlyD (dl rs) y.1.known day (lineageD (dl rs) y.1.known day o)).length := by omega
            refine r_exit rfl ?_
            refine r_seq ?_
            refine r_seq ?_
            refine r_region ?_
            refine l_x rfl (x_mv rfl) ?_
            refine l_x rfl (x_mv rfl) ?_
            refine l_x rfl (x_neq rfl rfl) ?_
            refine l_nil ?_
            refine r_ifd rfl (fun hc88 => ?_) (fun hc88 => ?_)
            · exact absurd (by rw [List.take_length]; exact rest_alone hR ho) hc88
            · skip
              refine r_skip ?_
              refine r_seq ?_
              refine r_region ?_
              refine l_x rfl (x_mv rfl) ?_
              refine l_x rfl (x_mv rfl) ?_
              refine l_x rfl (x_len (hD.rd.le S1.le) rfl Tryz.runUnderlying23) ?_
              refine l_x rfl (x_add rfl rfl (by omega)) ?_
              refine l_x rfl (x_mv rfl) ?_
              refine l_x rfl (x_mv rfl) ?_
              refine l_x rfl (x_buildS (out := [_, _, _, _, _, _, _, _, _, _, _]) (ss := [1, 1, 1, 1, 1, 1, 1, 1, 1, 1, 1]) Tryz.zeroValue26 rfl Tryz.runUnderlying26 ⟨Tryz.sizeOf3, Tryz.sizeOf3, Tryz.sizeOf3, Tryz.sizeOf5, Tryz.sizeOf3, Tryz.sizeOf3, Tryz.sizeOf3, Tryz.sizeOf3, Tryz.sizeOf3, Tryz.sizeOf24, Tryz.sizeOf24, trivial⟩ (fill_cons rfl rfl rfl (Nat.le_of_ble_eq_true rfl) (fill_cons rfl rfl rfl (Nat.le_of_ble_eq_true rfl) (fill_cons rfl rfl rfl (Nat.le_of_ble_eq_true rfl) (fill_cons rfl rfl rfl (Nat.le_of_ble_eq_true rfl) fill_nil))))) ?_
              refine l_call [] [] [_, _] rfl rfl Tryz.call42 rfl (c_Append rs vl ((⟨(rs.length : Int) + 1, 0, y.1.known, 8, 0, 0, 0, 0, of, [], []⟩ : D), ((none, 0, 0) : Hd), ((none, 0, 0) : Hd)) _ (hD.le S1.le) (sub_nil _ _ rfl rfl)) ?_
              rintro _ w46 ⟨s1, rs1, e1, rfl, he1, hrs1, h48⟩
              have S47 := S1.join h48
              refine l_x rfl (x_mv rfl) ?_
              refine l_x rfl (x_extract rfl rfl) ?_
              refine l_x rfl (x_extract rfl rfl) ?_
              refine l_x rfl (x_as rfl) ?_
              refine l_x rfl (x_as rfl) ?_
              refine l_nil ?_
              refine r_seq ?_
              refine r_seq ?_
              refine r_region ?_
              refine l_x rfl (x_mv rfl) ?_
              refine l_x rfl (x_neq rfl rfl) ?_
              refine l_x rfl (x_mv rfl) ?_
              refine l_splitd (d := 102) rfl (fun hg102 => ?_) (fun hg102 => ?_)
              · skip
                refine l_pass rfl ?_
                refine l_pass rfl ?_
                refine l_pass rfl ?_
                refine l_x rfl (x_pick_t rfl rfl) ?_
                refine l_nil ?_
                refine r_true rfl ?_
                refine r_seq ?_
                refine r_region ?_
                refine l_call [] [] [] rfl rfl Tryz.call23 rfl (c_enteredX _) ?_
                rintro _ w49 ⟨rfl, hl51⟩
                have S50 := S47.step hl51
                refine l_x rfl (x_as rfl) ?_
                refine l_nil ?_
                refine r_ret (rs := [.tmp 8]) [_] Tryz.func18 rfl ⟨rfl, trivial⟩ ?_
                exact ⟨rfl, S50.le⟩
              · skip
                have he0 := Decidable.not_not.1 hg102
                have h0 := he1.symm.trans he0
                have hh1 := app_dl h0 hrs1 (fun x hx => ⟨(hD.sub x hx).hm, (hD.sub x hx).sm⟩) ⟨Nat.zero_le _, Nat.zero_le _⟩
                have hm1 : dl rs1 = dl rs ++ [((⟨(rs.length : Int) + 1, 0, y.1.known, 8, 0, 0, 0, 0, of, [], []⟩ : D), ((none, 0, 0) : Hd), ((none, 0, 0) : Hd)).1] := hrs1.trans (append_ok h0)
                refine l_x rfl (x_mv rfl) ?_
                refine l_x rfl (x_mv rfl) ?_
                refine l_call [] [] [_, _] rfl rfl Tryz.call43 rfl (c_has _ _ _ (by have := lin_len (dl rs) y.1.known day o hR; omega) _ (vec_rd (S47.at 0 rfl))) ?_
                rintro _ w52 ⟨rfl, hl54⟩
                have S53 := S47.step hl54
                refine l_x rfl (x_pick_f rfl rfl) ?_
                refine l_nil ?_
                refine r_if rfl (fun hc106 => ?_) (fun hc106 => ?_)
                · skip
                  refine r_seq ?_
                  refine r_region ?_
                  refine l_call [] [] [] rfl rfl Tryz.call23 rfl (c_enteredX _) ?_
                  rintro _ w55 ⟨rfl, hl57⟩
                  have S56 := S53.step hl57
                  refine l_x rfl (x_as rfl) ?_
                  refine l_nil ?_
                  refine r_ret (rs := [.tmp 8]) [_] Tryz.func18 rfl ⟨rfl, trivial⟩ ?_
                  exact ⟨rfl, S56.le⟩
                · skip
                  refine r_skip ?_
                  refine r_seq ?_
                  refine r_region ?_
                  refine l_call [] [] [] rfl rfl Tryz.call23 rfl (c_enteredX _) ?_
                  rintro _ w58 ⟨rfl, hl60⟩
                  have S59 := S53.step hl60
                  refine l_x rfl (x_mv rfl) ?_
                  refine l_x rfl (x_mv rfl) ?_
                  refine l_x rfl (x_mv rfl) ?_
                  refine l_x rfl (x_mv rfl) ?_
                  refine l_x rfl (x_mv rfl) ?_
                  refine l_call [] [] [_, _, _, _] rfl rfl Tryz.call36 rfl (c_Uses rs1 s1 y.1.known day o _ (dnest_dsr (S59.at 2 rfl) (S59.at 3 rfl) hh1.1 (by have := hh1.2; omega))) ?_
                  rintro _ w61 ⟨rfl, hl63⟩
                  have S62 := S59.step hl63
                  refine l_x rfl (x_mv rfl) ?_
                  refine l_x rfl (x_eql rfl rfl) ?_
                  refine l_x rfl (x_pick_t rfl rfl) ?_
                  refine l_x rfl (x_as rfl) ?_
                  refine l_nil ?_
                  refine r_ret (rs := [.tmp 8]) [_] Tryz.func18 rfl ⟨rfl, trivial⟩ ?_
                  exact ⟨congrArg Value.bool (decide_eq_true (by rw [hm1]; exact rest_void h0 rfl (Int.le_refl _) (by simpa using hc106))), S62.le⟩

end Go.Proofs
