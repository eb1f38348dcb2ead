/- Texts joined for a claim: F13, F14, F15, F16, F17. -/
import Derived.Test.YtddapgjjndbejaaKe
import Derived.Test.YtddapgjjndbejaaKc
import Derived.Test.YtddapgjjndbejaaKb
/-
  Contracts of functions of the program: each by symbolic execution of its text.
-/
namespace Go.Proofs
open Go Go.Vk Go.Vk.Flow

set_option maxHeartbeats 1000000 in
/-- (*couchant/flow.carried).shown. -/
theorem c_shown (N : Int) (va : Value) (arcs : List Arc) (vx : Value) (x : List Int) (vw : Value) (wl : List Int) (mo p : Nat → Int) (hV : Valid N arcs) (hw0 : Wts arcs wl) (hC : Cn N arcs wl x mo p) (bc : Nat) (X : Nat → Prop) (u : World) (hX : ∀ b, X b → u.heap.size ≤ b) (hA : Rd EA u va arcs) (Hw : Rd EI u vw wl) (w : World) (S : Own X w w [blk bc (carC N va vx vw mo p) 91, vec EI vx x]) (h0 : Le u w) :
    Cl Try.prog 73 #[.pointer (some ⟨bc, 0, none⟩)] w fun v w' => ∃ q, Own X w w' [blk bc (carC N va vx vw mo P0) 91, vec EI vx x, vec EI v q] ∧ Pts N q ∧ Slack q arcs x wl := by
  have hNx := hV.max
  have hN1 := hV.pos
  have hLx := hV.len
  have hxA := hC.amts hV
  refine fn_of_run (args := [_]) 55 Try.func73 rfl rfl rfl fun cs => ?_
  refine r_seq ?_
  refine r_region ?_
  refine l_x rfl (x_as rfl) ?_
  refine l_nil ?_
  refine r_seq ?_
  refine r_region ?_
  refine l_x rfl (x_mv rfl) ?_
  refine l_x rfl (x_buildz Try.zeroValue89 zcT Try.runUnderlying89 Try.sizeOf3) ?_
  refine l_x rfl (x_nilCheck rfl) ?_
  refine l_x rfl (x_fieldAddr rfl Try.runUnderlying91 rfl Try.sizeOf89 (by decide)) ?_
  refine l_stores (vs := tab 1000 P0) S 0 rfl rfl rfl rfl tab_one (fun w => by rw [tab_length]; exact Try.sizeOf89 w) (by rw [tab_length, carC_len]; decide) carp_splice ?_
  intro w1 S2 hk3
  refine l_nil ?_
  refine r_seq ?_
  refine r_region ?_
  refine l_alloc S2 rfl Try.zeroValue89 zcT ?_
  intro b7 w4 S5 hl6
  refine l_nil ?_
  refine r_seq ?_
  refine r_seq ?_
  refine r_region ?_
  refine l_alloc S5 rfl Try.zeroValue4 rfl ?_
  intro b11 w8 S9 hl10
  refine l_storeq (c' := [_]) S9 3 rfl rfl rfl rfl rfl Try.sizeOf4 (by simp) rfl ?_
  intro w12 S13 hk14
  refine l_nil ?_
  refine r_block ?_
  refine r_loopD (G := (Nat → Int) × Bool × Nat × List Nat) (fun ⟨c, m, bm, Ds⟩ => mu c m) (fun ⟨c, m, bm, Ds⟩ => [(0, .pointer (some ⟨bc, 0, none⟩)), (3, .pointer (some ⟨b7, 0, none⟩)), (4, .pointer (some ⟨bm, 0, none⟩))]) (fun ⟨c, m, bm, Ds⟩ w' => (Sh p c) ∧ (m = false → Still (stps P0 0 arcs x wl) c) ∧ Own X w w' [blk bc (carC N va vx vw mo P0) 91, vec EI vx x, blk b7 (tab 1000 c) 89, blk bm [.bool m] 4, marksR Ds]) (fun ⟨c, m, bm, Ds⟩ => Ds.map Go.Vk.mark ++ []) (fun _ => 0, true, b11, []) ⟨rfl, rfl, rfl, trivial⟩ ⟨Sh.start hC.pb, (fun h => (by cases h)), (S13.nopack)⟩ rfl ?_
  rintro ⟨c, m, bm, Ds⟩ ρ w1a ⟨hSh, hSt, S1a⟩ IHa
  refine r_seq ?_
  refine r_seq ?_
  refine r_region ?_
  refine l_x rfl (x_load rfl (ld_blk (S1a.blk 3 rfl) Try.isAgg4 rfl)) ?_
  refine l_nil ?_
  refine r_if rfl (fun hc13 => ?_) (fun hc13 => ?_)
  · skip
    refine r_skip ?_
    refine r_seq ?_
    refine r_block ?_
    refine r_seq ?_
    refine r_region ?_
    refine l_storeq (c' := [_]) S1a 3 rfl rfl rfl rfl rfl Try.sizeOf4 (by simp) rfl ?_
    intro w15 S16 hk17
    refine l_nil ?_
    refine r_seq ?_
    refine r_region ?_
    refine l_x rfl (x_mv rfl) ?_
    refine l_x rfl (x_func rfl rfl) ?_
    refine l_nil ?_
    refine r_block ?_
    refine r_rangeFunc [_] [] S16 rfl rfl Try.call122 ?_
    intro D18 l19 w20 S21 hl22
    have S23 : Own _ _ _ [_, _, _, _, _, _, _] := S21.pick [0, 1, 4, 2, 3, 5, 6] (by decide) rfl
    have S24 := Own.pack (A := [_, _, _]) (L := [_, _, _, _]) S23
    refine (c_steps N va arcs vx x vw wl mo P0 hV hxA hw0 (fun v => by simp only [P0]; omega) bc _ _ _ (fun t r => ∃ c' m', r = pack [blk b7 (tab 1000 c') 89, blk bm [.bool m'] 4, _, _] ∧ Rd1 p c t c' m') (fun t r w1 hR S' => ⟨(S24.back 3 rfl S').blk 0 rfl, hA.le ((S24.back 3 rfl S').old h0 hX), vec_rd ((S24.back 3 rfl S').at 1 rfl), Hw.le ((S24.back 3 rfl S').old h0 hX)⟩) ?_ _ ⟨_, _, rfl, Rd1.start hSh⟩ _ (S24.lend 3 rfl)).mono ?_
    · skip
      rintro t _ s w1 ⟨c', m', rfl, hRd⟩ ⟨s', hin'⟩ hS
      have S25 := hS.open
      have hin : s ∈ stps P0 0 arcs x wl := by rw [hin']; simp
      have hsb := stps_ok hV hin
      have hs0 := step0 hC.red hw0 hin
      have hlo := hRd.1.lo s.src.toNat
      have hhi := hRd.1.hi s.src.toNat
      have hnn := hRd.1.nn s.src.toNat
      refine yl_of_run (S25.obj 3 rfl) rfl (fun c cs => ?_)
      refine r_region ?_
      refine l_alloc S25 rfl Try.zeroValue126 rfl ?_
      intro b29 w26 S27 hl28
      refine l_stores S27 4 rfl rfl rfl rfl (ES.one _) Try.sizeOf126 (by first | exact Nat.le_refl _ | simp) (splice_all rfl) ?_
      intro w30 S31 hk32
      refine l_nil ?_
      refine r_beginRound S31 3 rfl rfl ?_
      intro w33 S34 hk35
      refine r_block ?_
      refine r_seq ?_
      refine r_drawR 8 Try.mixed (by kernel_rfl) ?_
      refine w_x rfl (fun w1 h1 => x_fieldAddr rfl Try.runUnderlying126 rfl Try.sizeOf3 (by decide)) ?_
      refine w_x rfl (fun w1 h1 => x_load rfl (ld_blk ((S34.step h1).blk 4 rfl) Try.isAgg3 rfl)) ?_
      refine w_x rfl (fun w1 h1 => x_indexAddr_array rfl rfl Try.runUnderlying89 Try.sizeOf3 (by omega)) ?_
      refine w_x rfl (fun w1 h1 => x_load rfl (ld_blk ((S34.step h1).blk 0 rfl) Try.isAgg3 (tabs_get rfl (by omega)))) ?_
      refine w_x rfl (fun w1 h1 => x_fieldAddr rfl Try.runUnderlying126 rfl Try.sizeOf3 (by decide)) ?_
      refine w_x rfl (fun w1 h1 => x_load rfl (ld_blk ((S34.step h1).blk 4 rfl) Try.isAgg3 rfl)) ?_
      refine w_x rfl (fun w1 h1 => x_add rfl rfl (by omega)) ?_
      refine w_x rfl (fun w1 h1 => x_as rfl) ?_
      refine w_nil ?_
      intro w36 hl37
      have S38 := S34.step hl37
      refine l_nil ?_
      refine r_seq ?_
      refine r_region ?_
      refine l_x rfl (x_mv rfl) ?_
      refine l_x rfl (x_fieldAddr rfl Try.runUnderlying126 rfl Try.sizeOf3 (by decide)) ?_
      refine l_x rfl (x_load rfl (ld_blk (S38.blk 4 rfl) Try.isAgg3 rfl)) ?_
      refine l_x rfl (x_indexAddr_array rfl rfl Try.runUnderlying89 Try.sizeOf3 (by omega)) ?_
      refine l_x rfl (x_load rfl (ld_blk (S38.blk 0 rfl) Try.isAgg3 (tabs_get rfl (by omega)))) ?_
      refine l_x rfl (x_lss rfl rfl) ?_
      refine l_nil ?_
      refine r_ifd rfl (fun hc29 => ?_) (fun hc29 => ?_)
      · skip
        refine r_seq ?_
        refine r_region ?_
        refine l_x rfl (x_fieldAddr rfl Try.runUnderlying126 rfl Try.sizeOf3 (by decide)) ?_
        refine l_x rfl (x_load rfl (ld_blk (S38.blk 4 rfl) Try.isAgg3 rfl)) ?_
        refine l_x rfl (x_mv rfl) ?_
        refine l_x rfl (x_indexAddr_array rfl rfl Try.runUnderlying89 Try.sizeOf3 (by omega)) ?_
        refine l_storeq S38 0 rfl rfl rfl rfl rfl Try.sizeOf3 (tabs_lt rfl (by omega)) (tabs_set rfl (by omega)) ?_
        intro w39 S40 hk41
        refine l_nil ?_
        refine r_region ?_
        refine l_storeq (c' := [_]) S40 1 rfl rfl rfl rfl rfl Try.sizeOf4 (by simp) rfl ?_
        intro w42 S43 hk44
        refine l_nil ?_
        refine r_inBlock ?_
        refine r_roundEnd S43 3 rfl ?_
        intro w45 S46
        exact ⟨_, rfl, ⟨_, _, rfl, hRd.relax hC.red hw0 hV hin hc29⟩, (S46.take 4).close⟩
      · skip
        refine r_skip ?_
        refine r_inBlock ?_
        refine r_roundEnd S38 3 rfl ?_
        intro w47 S48
        exact ⟨_, rfl, ⟨_, _, rfl, hRd.keep hc29⟩, (S48.take 4).close⟩
    rintro _ w49 ⟨_, ⟨c', m', rfl, hRd⟩, hback50⟩
    have S51 := Own.unpack (A := [_, _, _]) (L := [_, _, _, _]) (S24.back 3 rfl hback50)
    refine r_endRange S51 6 rfl rfl ?_
    intro w52 S53 hk54
    refine r_inBlock ?_
    refine r_inBlock ?_
    refine r_seq ?_
    refine r_region ?_
    refine l_x rfl (x_load rfl (ld_blk (S53.blk 4 rfl) Try.isAgg4 rfl)) ?_
    refine l_nil ?_
    refine r_region ?_
    refine l_alloc S53 rfl Try.zeroValue4 rfl ?_
    intro b58 w55 S56 hl57
    refine l_storeq (c' := [_]) S56 7 rfl rfl rfl rfl rfl Try.sizeOf4 (by simp) rfl ?_
    intro w59 S60 hk61
    refine l_nil ?_
    exact IHa (c', m', b58, D18 :: Ds) _ _ _ (by dsimp only; rw [hc13]; exact hRd.less) ⟨rfl, rfl, rfl, trivial⟩ ⟨hRd.1, hRd.still, ((S60.pick [0, 1, 3, 7, 5, 2] (by decide) rfl).mcons (A := [_, _, _, _]))⟩ rfl
  · skip
    refine r_exit rfl ?_
    refine r_seq ?_
    refine r_region ?_
    refine l_x rfl (x_mv rfl) ?_
    refine l_x rfl (x_nilCheck rfl) ?_
    refine l_x rfl (x_fieldAddr rfl Try.runUnderlying91 rfl Try.sizeOf24 (by decide)) ?_
    refine l_x rfl (x_fieldAddr rfl Try.runUnderlying24 rfl Try.sizeOf3 (by decide)) ?_
    refine l_x rfl (x_load rfl (ld_blk (S1a.blk 0 rfl) Try.isAgg3 rfl)) ?_
    refine l_make EI 0 S1a rfl Try.runUnderlying25 Try.sizeOf3 Try.typeInfo3 Try.zeroValue3 rfl rfl (congrArg (Value.int .i64) (Int.toNat_of_nonneg (by omega)).symm) (congrArg (Value.int .i64) (Int.toNat_of_nonneg (by omega)).symm) (Nat.le_refl _) (by unfold maxLen; omega) (by show _ * 8 ≤ _; omega) ?_
    intro v65 w62 hv66 S63 hl64
    refine l_x rfl (x_as rfl) ?_
    refine l_nil ?_
    refine r_seq ?_
    refine r_seq ?_
    refine r_region ?_
    refine l_x rfl (x_mv rfl) ?_
    refine l_x rfl (x_len (vec_rd (S63.at 5 rfl)) rfl Try.runUnderlying25) ?_
    refine l_x rfl (x_mv rfl) ?_
    refine l_nil ?_
    refine r_block ?_
    refine r_loop (G := Nat) (fun i => N.toNat - i) (fun i => [(3, .pointer (some ⟨b7, 0, none⟩)), (7, v65), (43, .int .i64 i), (42, .int .i64 N)]) (fun i w' => (i ≤ N.toNat) ∧ Own X w w' [blk bc (carC N va vx vw mo P0) 91, vec EI vx x, blk b7 (tab 1000 c) 89, blk bm [.bool m] 4, marksR Ds, vec EI v65 (pre (outp N c) 0 i)]) 0 ⟨rfl, rfl, rfl, (congrArg (Value.int .i64) (by rw [List.length_replicate]; omega)), trivial⟩ ⟨Nat.zero_le _, (by rw [pre_zero, outp_len]; exact S63)⟩ ?_
    rintro i ρ w1b ⟨hi, S1b⟩ IHb
    refine r_seq ?_
    refine r_region ?_
    refine l_x rfl (x_lss rfl rfl) ?_
    refine l_nil ?_
    refine r_seq ?_
    refine r_ifd rfl (fun hc44 => ?_) (fun hc44 => ?_)
    · skip
      have hil : i < N.toNat := by omega
      have hlo := hSh.lo ((i : Nat) : Int).toNat
      have hhi := hSh.hi ((i : Nat) : Int).toNat
      have hnn := hSh.nn ((i : Nat) : Int).toNat
      refine r_skip ?_
      refine r_seq ?_
      refine r_block ?_
      refine r_seq ?_
      refine r_region ?_
      refine l_x rfl (x_mv rfl) ?_
      refine l_x rfl (x_as rfl) ?_
      refine l_nil ?_
      refine r_region ?_
      refine l_x rfl (x_mv rfl) ?_
      refine l_x rfl (x_mv rfl) ?_
      refine l_x rfl (x_mv rfl) ?_
      refine l_x rfl (x_indexAddr_array rfl rfl Try.runUnderlying89 Try.sizeOf3 (by omega)) ?_
      refine l_x rfl (x_load rfl (ld_blk (S1b.blk 2 rfl) Try.isAgg3 (tabs_get rfl (by omega)))) ?_
      refine l_x rfl (x_neg rfl (by omega)) ?_
      refine l_index EI rfl (vec_rd (S1b.at 5 rfl)) rfl rfl Try.runUnderlying25 Try.sizeOf3 (by omega) (pre_get (by rw [outp_len]; omega)) ?_
      intro b67 o68 hat69 row70
      refine l_storevi (f := 0) S1b 5 rfl rfl hat69 rfl rfl Try.sizeOf3 (pre_get (by rw [outp_len]; omega)) (by decide) rfl ?_
      intro w71 S72 hk73
      refine l_nil ?_
      refine r_inBlock ?_
      refine r_region ?_
      refine l_x rfl (x_add rfl rfl (by omega)) ?_
      refine l_x rfl (x_mv rfl) ?_
      refine l_nil ?_
      exact IHb (i + 1) _ _ (by omega) ⟨rfl, rfl, rfl, rfl, trivial⟩ ⟨by omega, (by rw [← pre_step (outp_get (by omega))]; exact S72)⟩
    · skip
      have hie : i = N.toNat := by omega
      subst hie
      refine r_exit rfl ?_
      refine r_seq ?_
      refine r_region ?_
      refine l_x rfl (x_mv rfl) ?_
      refine l_x rfl (x_as rfl) ?_
      refine l_nil ?_
      refine r_retL rfl ?_
      refine leave_marks (A := [_, _, _, _, _]) Ds (S1b.pick [0, 1, 2, 3, 5, 4] (by decide) rfl) ?_
      intro w74 S75
      refine leave_done (rs := [.tmp 2]) [_] Try.func73 rfl ⟨rfl, trivial⟩ ?_
      exact ⟨_, by have hS := S75; rw [show pre (outp N c) 0 N.toNat = outp N c from by rw [← outp_len N c]; exact pre_full] at hS; exact hS.pick [0, 1, 4] (by decide) rfl, hSh.pts hN1, (hSt hc13).slack hV hC.bds⟩

end Go.Proofs

/-
  Contracts of functions of the program: each by symbolic execution of its text.
-/
namespace Go.Proofs
open Go Go.Vk Go.Vk.Flow

/-- couchant/flow.Some. -/
theorem c_Some (N : Int) (va : Value) (arcs : List Arc) (w : World) (hA : Rd EA w va arcs) :
    Cl Try.prog 43 #[.agg #[.int .i64 N, va]] w fun v w' => ∃ vx x e, v = .tuple #[vx, .int .i64 e] ∧ New w w' (vec EI vx x) ∧ Le w w' ∧ SomeR N arcs x e := by
  refine fn_of_run (args := [_]) 29 Try.func43 rfl rfl rfl fun cs => ?_
  have S := Own.start (X := nob) w
  refine r_seq ?_
  refine r_region ?_
  refine l_box S rfl rfl ?_
  intro b4 w1 S2 hl3
  refine l_x rfl (x_as rfl) ?_
  refine l_x rfl (x_as rfl) ?_
  refine l_nil ?_
  refine r_seq ?_
  refine r_seq ?_
  refine r_region ?_
  refine l_x rfl (x_load rfl (ld_blks (S2.blk 0 rfl) Try.isAgg24 Try.sizeOf24 rfl rfl)) ?_
  refine l_call [] [] [_] rfl rfl Try.call36 rfl (c_Check N va arcs _ (hA.le S2.le)) ?_
  rintro _ w5 ⟨rfl, hl7⟩
  have S6 := S2.step hl7
  refine l_x rfl (x_as rfl) ?_
  refine l_nil ?_
  refine r_seq ?_
  refine r_region ?_
  refine l_x rfl (x_mv rfl) ?_
  refine l_x rfl (x_neq rfl rfl) ?_
  refine l_nil ?_
  refine r_ifd rfl (fun hc11 => ?_) (fun hc11 => ?_)
  · skip
    refine r_seq ?_
    refine r_region ?_
    refine l_x rfl (x_mv rfl) ?_
    refine l_x rfl (x_as rfl) ?_
    refine l_x rfl (x_as rfl) ?_
    refine l_nil ?_
    refine r_ret (rs := [.tmp 2, .tmp 3]) [_, _] Try.func43 rfl ⟨rfl, rfl, trivial⟩ ?_
    exact ⟨_, [], _, rfl, New.nilvec .., S6.le, .bad hc11⟩
  · skip
    have hV := chk_zero.1 (Decidable.not_not.1 hc11)
    have hLx := hV.len
    refine r_skip ?_
    refine r_seq ?_
    refine r_drawE 14 (yng w5) Try.mixed (by kernel_rfl) ?_
    intro w8 hl9
    have S10 := S6.step hl9
    have hy11 : Keep (yng w5) w5 w8 := .of_le hl9
    refine e_exact 0 _ (by kernel_rfl) rfl rfl (by kernel_rfl) rfl (ex_x rfl (fun w1 h1 => x_load rfl (ld_blks ((S6.yng (hy11.trans h1)).blk 0 rfl) Try.isAgg24 Try.sizeOf24 rfl rfl))) ?_
    refine e_exact 1 _ (by kernel_rfl) rfl rfl (by kernel_rfl) rfl (ex_x rfl (fun w1 h1 => x_fieldAddr rfl Try.runUnderlying24 rfl Try.sizeOf22 (by decide))) ?_
    refine e_exact 2 _ (by kernel_rfl) rfl rfl (by kernel_rfl) rfl (ex_x rfl (fun w1 h1 => x_load rfl (ld_blk ((S6.yng (hy11.trans h1)).blk 0 rfl) Try.isAgg22 rfl))) ?_
    refine e_exact 3 _ (by kernel_rfl) rfl rfl (by kernel_rfl) rfl (ex_x rfl (fun w1 h1 => x_len (hA.le (S6.yng (hy11.trans h1)).le) rfl Try.runUnderlying22)) ?_
    refine e_next [4, 10] (by kernel_rfl) (by kernel_rfl) ⟨⟨_, _, rfl, rfl, ?_⟩, ⟨_, _, rfl, rfl, ?_⟩, trivial⟩
    · skip
      refine s_make EI 0 S10 rfl Try.runUnderlying25 Try.sizeOf3 Try.typeInfo3 Try.zeroValue3 rfl rfl rfl rfl (Nat.le_refl _) (by unfold maxLen; omega) (by show _ * 8 ≤ _; omega) ?_
      intro v15 w12 hv16 S13 hl14
      refine ⟨.of_le hl14, ?_⟩
      have hy17 : Keep (yng w5) w5 w12 := hy11.trans (Keep.of_le hl14)
      refine e_next [5, 10] (by kernel_rfl) (by kernel_rfl) ⟨⟨_, _, rfl, rfl, ?_⟩, ⟨_, _, rfl, rfl, ?_⟩, trivial⟩
      · skip
        refine s_callf [] [] [_, _] rfl rfl Try.call71 rfl ((c_best N va arcs _ _ hV (zero_wts arcs) _ (hA.le S13.le) (vec_rd (S13.at 1 rfl))).mono ?_)
        rintro _ w18 (⟨bc1918, vx1918, x1918, mo1918, p1918, rfl, hO1918, hC1918, hmo1918⟩ | ⟨A1918, vn1918, ns1918, rfl, hN1918, hl1918, hh1918⟩)
        · skip
          have S19 := S13.join hO1918
          refine ⟨.of_le hO1918.le, ?_⟩
          have hy20 : Keep (yng w5) w5 w18 := hy17.trans (Keep.of_le hO1918.le)
          refine e_exact 6 _ (by kernel_rfl) rfl rfl (by kernel_rfl) rfl (ex_x rfl (fun w1 h1 => x_mv rfl)) ?_
          refine e_exact 7 _ (by kernel_rfl) rfl rfl (by kernel_rfl) rfl (ex_x rfl (fun w1 h1 => x_extract rfl rfl)) ?_
          refine e_exact 8 _ (by kernel_rfl) rfl rfl (by kernel_rfl) rfl (ex_x rfl (fun w1 h1 => x_extract rfl rfl)) ?_
          refine e_exact 9 _ (by kernel_rfl) rfl rfl (by kernel_rfl) rfl (ex_x rfl (fun w1 h1 => x_extract rfl rfl)) ?_
          refine e_next [10] (by kernel_rfl) (by kernel_rfl) ⟨⟨_, _, rfl, rfl, ?_⟩, trivial⟩
          refine s_allocY S19 rfl Try.zeroValue43 rfl ?_
          intro b24 w21 S22 hl23 hb25
          refine ⟨.of_le hl23, ?_⟩
          have hy26 : Keep (yng w5) w5 w21 := hy20.trans (Keep.of_le hl23)
          refine e_exact 11 _ (by kernel_rfl) rfl rfl (by kernel_rfl) rfl (ex_x rfl (fun w1 h1 => x_as rfl)) ?_
          refine e_next [12] (by kernel_rfl) (by kernel_rfl) ⟨⟨_, _, rfl, rfl, ?_⟩, trivial⟩
          refine s_stores (vs := [_, _]) S22 4 rfl rfl rfl rfl (ones_cons rfl (ones_cons rfl ones_nil)) Try.sizeOf43 (by first | exact Nat.le_refl _ | simp) (splice_all rfl) ?_
          intro w27 S28 hk29
          refine ⟨(yng_blk hy20 hb25 hk29), ?_⟩
          have hy30 : Keep (yng w5) w5 w27 := hy26.trans ((yng_blk hy20 hb25 hk29))
          refine e_exact 13 _ (by kernel_rfl) rfl rfl (by kernel_rfl) rfl (ex_x rfl (fun w1 h1 => x_as rfl)) ?_
          refine e_done (by kernel_rfl) ?_
          refine l_nil ?_
          refine r_seq ?_
          refine r_seq ?_
          refine r_region ?_
          refine l_x rfl (x_mv rfl) ?_
          refine l_x rfl (x_not rfl) ?_
          refine l_nil ?_
          refine r_false rfl ?_
          refine r_skip ?_
          refine r_seq ?_
          refine r_region ?_
          refine l_x rfl (x_mv rfl) ?_
          refine l_x rfl (x_nilCheck rfl) ?_
          refine l_x rfl (x_fieldAddr rfl Try.runUnderlying91 rfl Try.sizeOf25 (by decide)) ?_
          refine l_x rfl (x_load rfl (ld_blk (S28.blk 2 rfl) Try.isAgg25 rfl)) ?_
          refine l_x rfl (x_as rfl) ?_
          refine l_x rfl (x_as rfl) ?_
          refine l_nil ?_
          refine r_ret (rs := [.tmp 2, .tmp 3]) [_, _] Try.func43 rfl ⟨rfl, rfl, trivial⟩ ?_
          exact ⟨_, _, _, rfl, S28.new 3 rfl, S28.le, .yes hV (hC1918.circ hV hmo1918)⟩
        · skip
          have S31 := S13.add hl1918 hN1918
          refine ⟨.of_le hl1918, ?_⟩
          have hy32 : Keep (yng w5) w5 w18 := hy17.trans (Keep.of_le hl1918)
          refine e_exact 6 _ (by kernel_rfl) rfl rfl (by kernel_rfl) rfl (ex_x rfl (fun w1 h1 => x_mv rfl)) ?_
          refine e_exact 7 _ (by kernel_rfl) rfl rfl (by kernel_rfl) rfl (ex_x rfl (fun w1 h1 => x_extract rfl rfl)) ?_
          refine e_exact 8 _ (by kernel_rfl) rfl rfl (by kernel_rfl) rfl (ex_x rfl (fun w1 h1 => x_extract rfl rfl)) ?_
          refine e_exact 9 _ (by kernel_rfl) rfl rfl (by kernel_rfl) rfl (ex_x rfl (fun w1 h1 => x_extract rfl rfl)) ?_
          refine e_next [10] (by kernel_rfl) (by kernel_rfl) ⟨⟨_, _, rfl, rfl, ?_⟩, trivial⟩
          refine s_allocY S31 rfl Try.zeroValue43 rfl ?_
          intro b36 w33 S34 hl35 hb37
          refine ⟨.of_le hl35, ?_⟩
          have hy38 : Keep (yng w5) w5 w33 := hy32.trans (Keep.of_le hl35)
          refine e_exact 11 _ (by kernel_rfl) rfl rfl (by kernel_rfl) rfl (ex_x rfl (fun w1 h1 => x_as rfl)) ?_
          refine e_next [12] (by kernel_rfl) (by kernel_rfl) ⟨⟨_, _, rfl, rfl, ?_⟩, trivial⟩
          refine s_stores (vs := [_, _]) S34 3 rfl rfl rfl rfl (ones_cons rfl (ones_cons (Rd.one (vec_rd (S34.at 2 rfl))) ones_nil)) Try.sizeOf43 (by first | exact Nat.le_refl _ | simp) (splice_all rfl) ?_
          intro w39 S40 hk41
          refine ⟨(yng_blk hy32 hb37 hk41), ?_⟩
          have hy42 : Keep (yng w5) w5 w39 := hy38.trans ((yng_blk hy32 hb37 hk41))
          refine e_exact 13 _ (by kernel_rfl) rfl rfl (by kernel_rfl) rfl (ex_x rfl (fun w1 h1 => x_as rfl)) ?_
          refine e_done (by kernel_rfl) ?_
          refine l_nil ?_
          refine r_seq ?_
          refine r_seq ?_
          refine r_region ?_
          refine l_x rfl (x_mv rfl) ?_
          refine l_x rfl (x_not rfl) ?_
          refine l_nil ?_
          refine r_true rfl ?_
          refine r_seq ?_
          refine r_region ?_
          refine l_x rfl (x_as rfl) ?_
          refine l_x rfl (x_as rfl) ?_
          refine l_nil ?_
          refine r_ret (rs := [.tmp 2, .tmp 3]) [_, _] Try.func43 rfl ⟨rfl, rfl, trivial⟩ ?_
          exact ⟨_, [], _, rfl, New.nilvec .., S40.le, .no hV ⟨_, _, hh1918⟩⟩
      · skip
        refine s_allocY S13 rfl Try.zeroValue43 rfl ?_
        intro b46 w43 S44 hl45 hb47
        refine ⟨.of_le hl45, ?_⟩
        have hy48 : Keep (yng w5) w5 w43 := hy17.trans (Keep.of_le hl45)
        refine e_next [5] (by kernel_rfl) (by kernel_rfl) ⟨⟨_, _, rfl, rfl, ?_⟩, trivial⟩
        refine s_callf [] [] [_, _] rfl rfl Try.call71 rfl ((c_best N va arcs _ _ hV (zero_wts arcs) _ (hA.le S44.le) (vec_rd (S44.at 1 rfl))).mono ?_)
        rintro _ w49 (⟨bc1949, vx1949, x1949, mo1949, p1949, rfl, hO1949, hC1949, hmo1949⟩ | ⟨A1949, vn1949, ns1949, rfl, hN1949, hl1949, hh1949⟩)
        · skip
          have S50 := S44.join hO1949
          refine ⟨.of_le hO1949.le, ?_⟩
          have hy51 : Keep (yng w5) w5 w49 := hy48.trans (Keep.of_le hO1949.le)
          refine e_exact 6 _ (by kernel_rfl) rfl rfl (by kernel_rfl) rfl (ex_x rfl (fun w1 h1 => x_mv rfl)) ?_
          refine e_exact 7 _ (by kernel_rfl) rfl rfl (by kernel_rfl) rfl (ex_x rfl (fun w1 h1 => x_extract rfl rfl)) ?_
          refine e_exact 8 _ (by kernel_rfl) rfl rfl (by kernel_rfl) rfl (ex_x rfl (fun w1 h1 => x_extract rfl rfl)) ?_
          refine e_exact 9 _ (by kernel_rfl) rfl rfl (by kernel_rfl) rfl (ex_x rfl (fun w1 h1 => x_extract rfl rfl)) ?_
          refine e_exact 11 _ (by kernel_rfl) rfl rfl (by kernel_rfl) rfl (ex_x rfl (fun w1 h1 => x_as rfl)) ?_
          refine e_next [12] (by kernel_rfl) (by kernel_rfl) ⟨⟨_, _, rfl, rfl, ?_⟩, trivial⟩
          refine s_stores (vs := [_, _]) S50 2 rfl rfl rfl rfl (ones_cons rfl (ones_cons rfl ones_nil)) Try.sizeOf43 (by first | exact Nat.le_refl _ | simp) (splice_all rfl) ?_
          intro w52 S53 hk54
          refine ⟨(yng_blk hy17 hb47 hk54), ?_⟩
          have hy55 : Keep (yng w5) w5 w52 := hy51.trans ((yng_blk hy17 hb47 hk54))
          refine e_exact 13 _ (by kernel_rfl) rfl rfl (by kernel_rfl) rfl (ex_x rfl (fun w1 h1 => x_as rfl)) ?_
          refine e_done (by kernel_rfl) ?_
          refine l_nil ?_
          refine r_seq ?_
          refine r_seq ?_
          refine r_region ?_
          refine l_x rfl (x_mv rfl) ?_
          refine l_x rfl (x_not rfl) ?_
          refine l_nil ?_
          refine r_false rfl ?_
          refine r_skip ?_
          refine r_seq ?_
          refine r_region ?_
          refine l_x rfl (x_mv rfl) ?_
          refine l_x rfl (x_nilCheck rfl) ?_
          refine l_x rfl (x_fieldAddr rfl Try.runUnderlying91 rfl Try.sizeOf25 (by decide)) ?_
          refine l_x rfl (x_load rfl (ld_blk (S53.blk 3 rfl) Try.isAgg25 rfl)) ?_
          refine l_x rfl (x_as rfl) ?_
          refine l_x rfl (x_as rfl) ?_
          refine l_nil ?_
          refine r_ret (rs := [.tmp 2, .tmp 3]) [_, _] Try.func43 rfl ⟨rfl, rfl, trivial⟩ ?_
          exact ⟨_, _, _, rfl, S53.new 4 rfl, S53.le, .yes hV (hC1949.circ hV hmo1949)⟩
        · skip
          have S56 := S44.add hl1949 hN1949
          refine ⟨.of_le hl1949, ?_⟩
          have hy57 : Keep (yng w5) w5 w49 := hy48.trans (Keep.of_le hl1949)
          refine e_exact 6 _ (by kernel_rfl) rfl rfl (by kernel_rfl) rfl (ex_x rfl (fun w1 h1 => x_mv rfl)) ?_
          refine e_exact 7 _ (by kernel_rfl) rfl rfl (by kernel_rfl) rfl (ex_x rfl (fun w1 h1 => x_extract rfl rfl)) ?_
          refine e_exact 8 _ (by kernel_rfl) rfl rfl (by kernel_rfl) rfl (ex_x rfl (fun w1 h1 => x_extract rfl rfl)) ?_
          refine e_exact 9 _ (by kernel_rfl) rfl rfl (by kernel_rfl) rfl (ex_x rfl (fun w1 h1 => x_extract rfl rfl)) ?_
          refine e_exact 11 _ (by kernel_rfl) rfl rfl (by kernel_rfl) rfl (ex_x rfl (fun w1 h1 => x_as rfl)) ?_
          refine e_next [12] (by kernel_rfl) (by kernel_rfl) ⟨⟨_, _, rfl, rfl, ?_⟩, trivial⟩
          refine s_stores (vs := [_, _]) S56 2 rfl rfl rfl rfl (ones_cons rfl (ones_cons (Rd.one (vec_rd (S56.at 3 rfl))) ones_nil)) Try.sizeOf43 (by first | exact Nat.le_refl _ | simp) (splice_all rfl) ?_
          intro w58 S59 hk60
          refine ⟨(yng_blk hy17 hb47 hk60), ?_⟩
          have hy61 : Keep (yng w5) w5 w58 := hy57.trans ((yng_blk hy17 hb47 hk60))
          refine e_exact 13 _ (by kernel_rfl) rfl rfl (by kernel_rfl) rfl (ex_x rfl (fun w1 h1 => x_as rfl)) ?_
          refine e_done (by kernel_rfl) ?_
          refine l_nil ?_
          refine r_seq ?_
          refine r_seq ?_
          refine r_region ?_
          refine l_x rfl (x_mv rfl) ?_
          refine l_x rfl (x_not rfl) ?_
          refine l_nil ?_
          refine r_true rfl ?_
          refine r_seq ?_
          refine r_region ?_
          refine l_x rfl (x_as rfl) ?_
          refine l_x rfl (x_as rfl) ?_
          refine l_nil ?_
          refine r_ret (rs := [.tmp 2, .tmp 3]) [_, _] Try.func43 rfl ⟨rfl, rfl, trivial⟩ ?_
          exact ⟨_, [], _, rfl, New.nilvec .., S59.le, .no hV ⟨_, _, hh1949⟩⟩
    · skip
      refine s_allocY S10 rfl Try.zeroValue43 rfl ?_
      intro b65 w62 S63 hl64 hb66
      refine ⟨.of_le hl64, ?_⟩
      have hy67 : Keep (yng w5) w5 w62 := hy11.trans (Keep.of_le hl64)
      refine e_next [4] (by kernel_rfl) (by kernel_rfl) ⟨⟨_, _, rfl, rfl, ?_⟩, trivial⟩
      refine s_make EI 0 S63 rfl Try.runUnderlying25 Try.sizeOf3 Try.typeInfo3 Try.zeroValue3 rfl rfl rfl rfl (Nat.le_refl _) (by unfold maxLen; omega) (by show _ * 8 ≤ _; omega) ?_
      intro v71 w68 hv72 S69 hl70
      refine ⟨.of_le hl70, ?_⟩
      have hy73 : Keep (yng w5) w5 w68 := hy67.trans (Keep.of_le hl70)
      refine e_next [5] (by kernel_rfl) (by kernel_rfl) ⟨⟨_, _, rfl, rfl, ?_⟩, trivial⟩
      refine s_callf [] [] [_, _] rfl rfl Try.call71 rfl ((c_best N va arcs _ _ hV (zero_wts arcs) _ (hA.le S69.le) (vec_rd (S69.at 2 rfl))).mono ?_)
      rintro _ w74 (⟨bc1974, vx1974, x1974, mo1974, p1974, rfl, hO1974, hC1974, hmo1974⟩ | ⟨A1974, vn1974, ns1974, rfl, hN1974, hl1974, hh1974⟩)
      · skip
        have S75 := S69.join hO1974
        refine ⟨.of_le hO1974.le, ?_⟩
        have hy76 : Keep (yng w5) w5 w74 := hy73.trans (Keep.of_le hO1974.le)
        refine e_exact 6 _ (by kernel_rfl) rfl rfl (by kernel_rfl) rfl (ex_x rfl (fun w1 h1 => x_mv rfl)) ?_
        refine e_exact 7 _ (by kernel_rfl) rfl rfl (by kernel_rfl) rfl (ex_x rfl (fun w1 h1 => x_extract rfl rfl)) ?_
        refine e_exact 8 _ (by kernel_rfl) rfl rfl (by kernel_rfl) rfl (ex_x rfl (fun w1 h1 => x_extract rfl rfl)) ?_
        refine e_exact 9 _ (by kernel_rfl) rfl rfl (by kernel_rfl) rfl (ex_x rfl (fun w1 h1 => x_extract rfl rfl)) ?_
        refine e_exact 11 _ (by kernel_rfl) rfl rfl (by kernel_rfl) rfl (ex_x rfl (fun w1 h1 => x_as rfl)) ?_
        refine e_next [12] (by kernel_rfl) (by kernel_rfl) ⟨⟨_, _, rfl, rfl, ?_⟩, trivial⟩
        refine s_stores (vs := [_, _]) S75 1 rfl rfl rfl rfl (ones_cons rfl (ones_cons rfl ones_nil)) Try.sizeOf43 (by first | exact Nat.le_refl _ | simp) (splice_all rfl) ?_
        intro w77 S78 hk79
        refine ⟨(yng_blk hy11 hb66 hk79), ?_⟩
        have hy80 : Keep (yng w5) w5 w77 := hy76.trans ((yng_blk hy11 hb66 hk79))
        refine e_exact 13 _ (by kernel_rfl) rfl rfl (by kernel_rfl) rfl (ex_x rfl (fun w1 h1 => x_as rfl)) ?_
        refine e_done (by kernel_rfl) ?_
        refine l_nil ?_
        refine r_seq ?_
        refine r_seq ?_
        refine r_region ?_
        refine l_x rfl (x_mv rfl) ?_
        refine l_x rfl (x_not rfl) ?_
        refine l_nil ?_
        refine r_false rfl ?_
        refine r_skip ?_
        refine r_seq ?_
        refine r_region ?_
        refine l_x rfl (x_mv rfl) ?_
        refine l_x rfl (x_nilCheck rfl) ?_
        refine l_x rfl (x_fieldAddr rfl Try.runUnderlying91 rfl Try.sizeOf25 (by decide)) ?_
        refine l_x rfl (x_load rfl (ld_blk (S78.blk 3 rfl) Try.isAgg25 rfl)) ?_
        refine l_x rfl (x_as rfl) ?_
        refine l_x rfl (x_as rfl) ?_
        refine l_nil ?_
        refine r_ret (rs := [.tmp 2, .tmp 3]) [_, _] Try.func43 rfl ⟨rfl, rfl, trivial⟩ ?_
        exact ⟨_, _, _, rfl, S78.new 4 rfl, S78.le, .yes hV (hC1974.circ hV hmo1974)⟩
      · skip
        have S81 := S69.add hl1974 hN1974
        refine ⟨.of_le hl1974, ?_⟩
        have hy82 : Keep (yng w5) w5 w74 := hy73.trans (Keep.of_le hl1974)
        refine e_exact 6 _ (by kernel_rfl) rfl rfl (by kernel_rfl) rfl (ex_x rfl (fun w1 h1 => x_mv rfl)) ?_
        refine e_exact 7 _ (by kernel_rfl) rfl rfl (by kernel_rfl) rfl (ex_x rfl (fun w1 h1 => x_extract rfl rfl)) ?_
        refine e_exact 8 _ (by kernel_rfl) rfl rfl (by kernel_rfl) rfl (ex_x rfl (fun w1 h1 => x_extract rfl rfl)) ?_
        refine e_exact 9 _ (by kernel_rfl) rfl rfl (by kernel_rfl) rfl (ex_x rfl (fun w1 h1 => x_extract rfl rfl)) ?_
        refine e_exact 11 _ (by kernel_rfl) rfl rfl (by kernel_rfl) rfl (ex_x rfl (fun w1 h1 => x_as rfl)) ?_
        refine e_next [12] (by kernel_rfl) (by kernel_rfl) ⟨⟨_, _, rfl, rfl, ?_⟩, trivial⟩
        refine s_stores (vs := [_, _]) S81 1 rfl rfl rfl rfl (ones_cons rfl (ones_cons (Rd.one (vec_rd (S81.at 3 rfl))) ones_nil)) Try.sizeOf43 (by first | exact Nat.le_refl _ | simp) (splice_all rfl) ?_
        intro w83 S84 hk85
        refine ⟨(yng_blk hy11 hb66 hk85), ?_⟩
        have hy86 : Keep (yng w5) w5 w83 := hy82.trans ((yng_blk hy11 hb66 hk85))
        refine e_exact 13 _ (by kernel_rfl) rfl rfl (by kernel_rfl) rfl (ex_x rfl (fun w1 h1 => x_as rfl)) ?_
        refine e_done (by kernel_rfl) ?_
        refine l_nil ?_
        refine r_seq ?_
        refine r_seq ?_
        refine r_region ?_
        refine l_x rfl (x_mv rfl) ?_
        refine l_x rfl (x_not rfl) ?_
        refine l_nil ?_
        refine r_true rfl ?_
        refine r_seq ?_
        refine r_region ?_
        refine l_x rfl (x_as rfl) ?_
        refine l_x rfl (x_as rfl) ?_
        refine l_nil ?_
        refine r_ret (rs := [.tmp 2, .tmp 3]) [_, _] Try.func43 rfl ⟨rfl, rfl, trivial⟩ ?_
        exact ⟨_, [], _, rfl, New.nilvec .., S84.le, .no hV ⟨_, _, hh1974⟩⟩

/-- couchant/flow.Obstacle. -/
theorem c_Obstacle (N : Int) (va : Value) (arcs : List Arc) (w : World) (hA : Rd EA w va arcs) :
    Cl Try.prog 44 #[.agg #[.int .i64 N, va]] w fun v w' => ∃ A vn ns is e, v = .tuple #[.agg #[.int .i64 A, vn], .bool is, .int .i64 e] ∧ New w w' (vec EI vn ns) ∧ Le w w' ∧ ObsR N arcs A ns is e := by
  refine fn_of_run (args := [_]) 28 Try.func44 rfl rfl rfl fun cs => ?_
  have S := Own.start (X := nob) w
  refine r_seq ?_
  refine r_region ?_
  refine l_box S rfl rfl ?_
  intro b4 w1 S2 hl3
  refine l_alloc S2 rfl Try.zeroValue43 rfl ?_
  intro b8 w5 S6 hl7
  refine l_x rfl (x_as rfl) ?_
  refine l_x rfl (x_as rfl) ?_
  refine l_nil ?_
  refine r_seq ?_
  refine r_seq ?_
  refine r_region ?_
  refine l_x rfl (x_load rfl (ld_blks (S6.blk 0 rfl) Try.isAgg24 Try.sizeOf24 rfl rfl)) ?_
  refine l_call [] [] [_] rfl rfl Try.call36 rfl (c_Check N va arcs _ (hA.le S6.le)) ?_
  rintro _ w9 ⟨rfl, hl11⟩
  have S10 := S6.step hl11
  refine l_x rfl (x_as rfl) ?_
  refine l_nil ?_
  refine r_seq ?_
  refine r_region ?_
  refine l_x rfl (x_mv rfl) ?_
  refine l_x rfl (x_neq rfl rfl) ?_
  refine l_nil ?_
  refine r_ifd rfl (fun hc12 => ?_) (fun hc12 => ?_)
  · skip
    refine r_seq ?_
    refine r_region ?_
    refine l_x rfl (x_buildS (out := [_, _]) (ss := [1, 1]) Try.zeroValue43 rfl Try.runUnderlying43 ⟨Try.sizeOf3, Try.sizeOf25, trivial⟩ fill_nil) ?_
    refine l_x rfl (x_mv rfl) ?_
    refine l_stores (vs := [_, _]) S10 1 rfl rfl rfl rfl (ones_cons rfl (ones_cons rfl ones_nil)) Try.sizeOf43 (by first | exact Nat.le_refl _ | simp) (splice_all rfl) ?_
    intro w12 S13 hk14
    refine l_x rfl (x_as rfl) ?_
    refine l_x rfl (x_as rfl) ?_
    refine l_nil ?_
    refine r_ret (rs := [.cell 2 43, .tmp 3, .tmp 4]) [_, _, _] Try.func44 rfl ⟨⟨_, rfl, (ld_blks (S13.blk 1 rfl) Try.isAgg43 Try.sizeOf43 rfl rfl)⟩, rfl, rfl, trivial⟩ ?_
    exact ⟨_, _, [], _, _, rfl, New.nilvec .., S13.le, .bad hc12⟩
  · skip
    have hV := chk_zero.1 (Decidable.not_not.1 hc12)
    have hLx := hV.len
    refine r_skip ?_
    refine r_seq ?_
    refine r_drawE 14 (yng w9) Try.mixed (by kernel_rfl) ?_
    intro w15 hl16
    have S17 := S10.step hl16
    have hy18 : Keep (yng w9) w9 w15 := .of_le hl16
    refine e_exact 0 _ (by kernel_rfl) rfl rfl (by kernel_rfl) rfl (ex_x rfl (fun w1 h1 => x_load rfl (ld_blks ((S10.yng (hy18.trans h1)).blk 0 rfl) Try.isAgg24 Try.sizeOf24 rfl rfl))) ?_
    refine e_exact 1 _ (by kernel_rfl) rfl rfl (by kernel_rfl) rfl (ex_x rfl (fun w1 h1 => x_fieldAddr rfl Try.runUnderlying24 rfl Try.sizeOf22 (by decide))) ?_
    refine e_exact 2 _ (by kernel_rfl) rfl rfl (by kernel_rfl) rfl (ex_x rfl (fun w1 h1 => x_load rfl (ld_blk ((S10.yng (hy18.trans h1)).blk 0 rfl) Try.isAgg22 rfl))) ?_
    refine e_exact 3 _ (by kernel_rfl) rfl rfl (by kernel_rfl) rfl (ex_x rfl (fun w1 h1 => x_len (hA.le (S10.yng (hy18.trans h1)).le) rfl Try.runUnderlying22)) ?_
    refine e_next [4, 10] (by kernel_rfl) (by kernel_rfl) ⟨⟨_, _, rfl, rfl, ?_⟩, ⟨_, _, rfl, rfl, ?_⟩, trivial⟩
    · skip
      refine s_make EI 0 S17 rfl Try.runUnderlying25 Try.sizeOf3 Try.typeInfo3 Try.zeroValue3 rfl rfl rfl rfl (Nat.le_refl _) (by unfold maxLen; omega) (by show _ * 8 ≤ _; omega) ?_
      intro v22 w19 hv23 S20 hl21
      refine ⟨.of_le hl21, ?_⟩
      have hy24 : Keep (yng w9) w9 w19 := hy18.trans (Keep.of_le hl21)
      refine e_next [5, 10] (by kernel_rfl) (by kernel_rfl) ⟨⟨_, _, rfl, rfl, ?_⟩, ⟨_, _, rfl, rfl, ?_⟩, trivial⟩
      · skip
        refine s_callf [] [] [_, _] rfl rfl Try.call71 rfl ((c_best N va arcs _ _ hV (zero_wts arcs) _ (hA.le S20.le) (vec_rd (S20.at 2 rfl))).mono ?_)
        rintro _ w25 (⟨bc2125, vx2125, x2125, mo2125, p2125, rfl, hO2125, hC2125, hmo2125⟩ | ⟨A2125, vn2125, ns2125, rfl, hN2125, hl2125, hh2125⟩)
        · skip
          have S26 := S20.join hO2125
          refine ⟨.of_le hO2125.le, ?_⟩
          have hy27 : Keep (yng w9) w9 w25 := hy24.trans (Keep.of_le hO2125.le)
          refine e_exact 6 _ (by kernel_rfl) rfl rfl (by kernel_rfl) rfl (ex_x rfl (fun w1 h1 => x_mv rfl)) ?_
          refine e_exact 7 _ (by kernel_rfl) rfl rfl (by kernel_rfl) rfl (ex_x rfl (fun w1 h1 => x_extract rfl rfl)) ?_
          refine e_exact 8 _ (by kernel_rfl) rfl rfl (by kernel_rfl) rfl (ex_x rfl (fun w1 h1 => x_extract rfl rfl)) ?_
          refine e_exact 9 _ (by kernel_rfl) rfl rfl (by kernel_rfl) rfl (ex_x rfl (fun w1 h1 => x_extract rfl rfl)) ?_
          refine e_next [10] (by kernel_rfl) (by kernel_rfl) ⟨⟨_, _, rfl, rfl, ?_⟩, trivial⟩
          refine s_allocY S26 rfl Try.zeroValue43 rfl ?_
          intro b31 w28 S29 hl30 hb32
          refine ⟨.of_le hl30, ?_⟩
          have hy33 : Keep (yng w9) w9 w28 := hy27.trans (Keep.of_le hl30)
          refine e_exact 11 _ (by kernel_rfl) rfl rfl (by kernel_rfl) rfl (ex_x rfl (fun w1 h1 => x_as rfl)) ?_
          refine e_next [12] (by kernel_rfl) (by kernel_rfl) ⟨⟨_, _, rfl, rfl, ?_⟩, trivial⟩
          refine s_stores (vs := [_, _]) S29 5 rfl rfl rfl rfl (ones_cons rfl (ones_cons rfl ones_nil)) Try.sizeOf43 (by first | exact Nat.le_refl _ | simp) (splice_all rfl) ?_
          intro w34 S35 hk36
          refine ⟨(yng_blk hy27 hb32 hk36), ?_⟩
          have hy37 : Keep (yng w9) w9 w34 := hy33.trans ((yng_blk hy27 hb32 hk36))
          refine e_exact 13 _ (by kernel_rfl) rfl rfl (by kernel_rfl) rfl (ex_x rfl (fun w1 h1 => x_as rfl)) ?_
          refine e_done (by kernel_rfl) ?_
          refine l_nil ?_
          refine r_seq ?_
          refine r_region ?_
          refine l_x rfl (x_load rfl (ld_blks (S35.blk 5 rfl) Try.isAgg43 Try.sizeOf43 rfl rfl)) ?_
          refine l_x rfl (x_mv rfl) ?_
          refine l_x rfl (x_not rfl) ?_
          refine l_stores (vs := [_, _]) S35 1 rfl rfl rfl rfl (ones_cons rfl (ones_cons rfl ones_nil)) Try.sizeOf43 (by first | exact Nat.le_refl _ | simp) (splice_all rfl) ?_
          intro w38 S39 hk40
          refine l_x rfl (x_as rfl) ?_
          refine l_x rfl (x_as rfl) ?_
          refine l_nil ?_
          refine r_ret (rs := [.cell 2 43, .tmp 3, .tmp 4]) [_, _, _] Try.func44 rfl ⟨⟨_, rfl, (ld_blks (S39.blk 1 rfl) Try.isAgg43 Try.sizeOf43 rfl rfl)⟩, rfl, rfl, trivial⟩ ?_
          exact ⟨_, _, [], _, _, rfl, New.nilvec .., S39.le, .yes hV (hC2125.circ hV hmo2125)⟩
        · skip
          have S41 := S20.add hl2125 hN2125
          refine ⟨.of_le hl2125, ?_⟩
          have hy42 : Keep (yng w9) w9 w25 := hy24.trans (Keep.of_le hl2125)
          refine e_exact 6 _ (by kernel_rfl) rfl rfl (by kernel_rfl) rfl (ex_x rfl (fun w1 h1 => x_mv rfl)) ?_
          refine e_exact 7 _ (by kernel_rfl) rfl rfl (by kernel_rfl) rfl (ex_x rfl (fun w1 h1 => x_extract rfl rfl)) ?_
          refine e_exact 8 _ (by kernel_rfl) rfl rfl (by kernel_rfl) rfl (ex_x rfl (fun w1 h1 => x_extract rfl rfl)) ?_
          refine e_exact 9 _ (by kernel_rfl) rfl rfl (by kernel_rfl) rfl (ex_x rfl (fun w1 h1 => x_extract rfl rfl)) ?_
          refine e_next [10] (by kernel_rfl) (by kernel_rfl) ⟨⟨_, _, rfl, rfl, ?_⟩, trivial⟩
          refine s_allocY S41 rfl Try.zeroValue43 rfl ?_
          intro b46 w43 S44 hl45 hb47
          refine ⟨.of_le hl45, ?_⟩
          have hy48 : Keep (yng w9) w9 w43 := hy42.trans (Keep.of_le hl45)
          refine e_exact 11 _ (by kernel_rfl) rfl rfl (by kernel_rfl) rfl (ex_x rfl (fun w1 h1 => x_as rfl)) ?_
          refine e_next [12] (by kernel_rfl) (by kernel_rfl) ⟨⟨_, _, rfl, rfl, ?_⟩, trivial⟩
          refine s_stores (vs := [_, _]) S44 4 rfl rfl rfl rfl (ones_cons rfl (ones_cons (Rd.one (vec_rd (S44.at 3 rfl))) ones_nil)) Try.sizeOf43 (by first | exact Nat.le_refl _ | simp) (splice_all rfl) ?_
          intro w49 S50 hk51
          refine ⟨(yng_blk hy42 hb47 hk51), ?_⟩
          have hy52 : Keep (yng w9) w9 w49 := hy48.trans ((yng_blk hy42 hb47 hk51))
          refine e_exact 13 _ (by kernel_rfl) rfl rfl (by kernel_rfl) rfl (ex_x rfl (fun w1 h1 => x_as rfl)) ?_
          refine e_done (by kernel_rfl) ?_
          refine l_nil ?_
          refine r_seq ?_
          refine r_region ?_
          refine l_x rfl (x_load rfl (ld_blks (S50.blk 4 rfl) Try.isAgg43 Try.sizeOf43 rfl rfl)) ?_
          refine l_x rfl (x_mv rfl) ?_
          refine l_x rfl (x_not rfl) ?_
          refine l_stores (vs := [_, _]) S50 1 rfl rfl rfl rfl (ones_cons rfl (ones_cons (Rd.one (vec_rd (S50.at 3 rfl))) ones_nil)) Try.sizeOf43 (by first | exact Nat.le_refl _ | simp) (splice_all rfl) ?_
          intro w53 S54 hk55
          refine l_x rfl (x_as rfl) ?_
          refine l_x rfl (x_as rfl) ?_
          refine l_nil ?_
          refine r_ret (rs := [.cell 2 43, .tmp 3, .tmp 4]) [_, _, _] Try.func44 rfl ⟨⟨_, rfl, (ld_blks (S54.blk 1 rfl) Try.isAgg43 Try.sizeOf43 rfl rfl)⟩, rfl, rfl, trivial⟩ ?_
          exact ⟨_, _, _, _, _, rfl, S54.new 3 rfl, S54.le, .no hV hh2125⟩
      · skip
        refine s_allocY S20 rfl Try.zeroValue43 rfl ?_
        intro b59 w56 S57 hl58 hb60
        refine ⟨.of_le hl58, ?_⟩
        have hy61 : Keep (yng w9) w9 w56 := hy24.trans (Keep.of_le hl58)
        refine e_next [5] (by kernel_rfl) (by kernel_rfl) ⟨⟨_, _, rfl, rfl, ?_⟩, trivial⟩
        refine s_callf [] [] [_, _] rfl rfl Try.call71 rfl ((c_best N va arcs _ _ hV (zero_wts arcs) _ (hA.le S57.le) (vec_rd (S57.at 2 rfl))).mono ?_)
        rintro _ w62 (⟨bc2162, vx2162, x2162, mo2162, p2162, rfl, hO2162, hC2162, hmo2162⟩ | ⟨A2162, vn2162, ns2162, rfl, hN2162, hl2162, hh2162⟩)
        · skip
          have S63 := S57.join hO2162
          refine ⟨.of_le hO2162.le, ?_⟩
          have hy64 : Keep (yng w9) w9 w62 := hy61.trans (Keep.of_le hO2162.le)
          refine e_exact 6 _ (by kernel_rfl) rfl rfl (by kernel_rfl) rfl (ex_x rfl (fun w1 h1 => x_mv rfl)) ?_
          refine e_exact 7 _ (by kernel_rfl) rfl rfl (by kernel_rfl) rfl (ex_x rfl (fun w1 h1 => x_extract rfl rfl)) ?_
          refine e_exact 8 _ (by kernel_rfl) rfl rfl (by kernel_rfl) rfl (ex_x rfl (fun w1 h1 => x_extract rfl rfl)) ?_
          refine e_exact 9 _ (by kernel_rfl) rfl rfl (by kernel_rfl) rfl (ex_x rfl (fun w1 h1 => x_extract rfl rfl)) ?_
          refine e_exact 11 _ (by kernel_rfl) rfl rfl (by kernel_rfl) rfl (ex_x rfl (fun w1 h1 => x_as rfl)) ?_
          refine e_next [12] (by kernel_rfl) (by kernel_rfl) ⟨⟨_, _, rfl, rfl, ?_⟩, trivial⟩
          refine s_stores (vs := [_, _]) S63 3 rfl rfl rfl rfl (ones_cons rfl (ones_cons rfl ones_nil)) Try.sizeOf43 (by first | exact Nat.le_refl _ | simp) (splice_all rfl) ?_
          intro w65 S66 hk67
          refine ⟨(yng_blk hy24 hb60 hk67), ?_⟩
          have hy68 : Keep (yng w9) w9 w65 := hy64.trans ((yng_blk hy24 hb60 hk67))
          refine e_exact 13 _ (by kernel_rfl) rfl rfl (by kernel_rfl) rfl (ex_x rfl (fun w1 h1 => x_as rfl)) ?_
          refine e_done (by kernel_rfl) ?_
          refine l_nil ?_
          refine r_seq ?_
          refine r_region ?_
          refine l_x rfl (x_load rfl (ld_blks (S66.blk 3 rfl) Try.isAgg43 Try.sizeOf43 rfl rfl)) ?_
          refine l_x rfl (x_mv rfl) ?_
          refine l_x rfl (x_not rfl) ?_
          refine l_stores (vs := [_, _]) S66 1 rfl rfl rfl rfl (ones_cons rfl (ones_cons rfl ones_nil)) Try.sizeOf43 (by first | exact Nat.le_refl _ | simp) (splice_all rfl) ?_
          intro w69 S70 hk71
          refine l_x rfl (x_as rfl) ?_
          refine l_x rfl (x_as rfl) ?_
          refine l_nil ?_
          refine r_ret (rs := [.cell 2 43, .tmp 3, .tmp 4]) [_, _, _] Try.func44 rfl ⟨⟨_, rfl, (ld_blks (S70.blk 1 rfl) Try.isAgg43 Try.sizeOf43 rfl rfl)⟩, rfl, rfl, trivial⟩ ?_
          exact ⟨_, _, [], _, _, rfl, New.nilvec .., S70.le, .yes hV (hC2162.circ hV hmo2162)⟩
        · skip
          have S72 := S57.add hl2162 hN2162
          refine ⟨.of_le hl2162, ?_⟩
          have hy73 : Keep (yng w9) w9 w62 := hy61.trans (Keep.of_le hl2162)
          refine e_exact 6 _ (by kernel_rfl) rfl rfl (by kernel_rfl) rfl (ex_x rfl (fun w1 h1 => x_mv rfl)) ?_
          refine e_exact 7 _ (by kernel_rfl) rfl rfl (by kernel_rfl) rfl (ex_x rfl (fun w1 h1 => x_extract rfl rfl)) ?_
          refine e_exact 8 _ (by kernel_rfl) rfl rfl (by kernel_rfl) rfl (ex_x rfl (fun w1 h1 => x_extract rfl rfl)) ?_
          refine e_exact 9 _ (by kernel_rfl) rfl rfl (by kernel_rfl) rfl (ex_x rfl (fun w1 h1 => x_extract rfl rfl)) ?_
          refine e_exact 11 _ (by kernel_rfl) rfl rfl (by kernel_rfl) rfl (ex_x rfl (fun w1 h1 => x_as rfl)) ?_
          refine e_next [12] (by kernel_rfl) (by kernel_rfl) ⟨⟨_, _, rfl, rfl, ?_⟩, trivial⟩
          refine s_stores (vs := [_, _]) S72 3 rfl rfl rfl rfl (ones_cons rfl (ones_cons (Rd.one (vec_rd (S72.at 4 rfl))) ones_nil)) Try.sizeOf43 (by first | exact Nat.le_refl _ | simp) (splice_all rfl) ?_
          intro w74 S75 hk76
          refine ⟨(yng_blk hy24 hb60 hk76), ?_⟩
          have hy77 : Keep (yng w9) w9 w74 := hy73.trans ((yng_blk hy24 hb60 hk76))
          refine e_exact 13 _ (by kernel_rfl) rfl rfl (by kernel_rfl) rfl (ex_x rfl (fun w1 h1 => x_as rfl)) ?_
          refine e_done (by kernel_rfl) ?_
          refine l_nil ?_
          refine r_seq ?_
          refine r_region ?_
          refine l_x rfl (x_load rfl (ld_blks (S75.blk 3 rfl) Try.isAgg43 Try.sizeOf43 rfl rfl)) ?_
          refine l_x rfl (x_mv rfl) ?_
          refine l_x rfl (x_not rfl) ?_
          refine l_stores (vs := [_, _]) S75 1 rfl rfl rfl rfl (ones_cons rfl (ones_cons (Rd.one (vec_rd (S75.at 4 rfl))) ones_nil)) Try.sizeOf43 (by first | exact Nat.le_refl _ | simp) (splice_all rfl) ?_
          intro w78 S79 hk80
          refine l_x rfl (x_as rfl) ?_
          refine l_x rfl (x_as rfl) ?_
          refine l_nil ?_
          refine r_ret (rs := [.cell 2 43, .tmp 3, .tmp 4]) [_, _, _] Try.func44 rfl ⟨⟨_, rfl, (ld_blks (S79.blk 1 rfl) Try.isAgg43 Try.sizeOf43 rfl rfl)⟩, rfl, rfl, trivial⟩ ?_
          exact ⟨_, _, _, _, _, rfl, S79.new 4 rfl, S79.le, .no hV hh2162⟩
    · skip
      refine s_allocY S17 rfl Try.zeroValue43 rfl ?_
      intro b84 w81 S82 hl83 hb85
      refine ⟨.of_le hl83, ?_⟩
      have hy86 : Keep (yng w9) w9 w81 := hy18.trans (Keep.of_le hl83)
      refine e_next [4] (by kernel_rfl) (by kernel_rfl) ⟨⟨_, _, rfl, rfl, ?_⟩, trivial⟩
      refine s_make EI 0 S82 rfl Try.runUnderlying25 Try.sizeOf3 Try.typeInfo3 Try.zeroValue3 rfl rfl rfl rfl (Nat.le_refl _) (by unfold maxLen; omega) (by show _ * 8 ≤ _; omega) ?_
      intro v90 w87 hv91 S88 hl89
      refine ⟨.of_le hl89, ?_⟩
      have hy92 : Keep (yng w9) w9 w87 := hy86.trans (Keep.of_le hl89)
      refine e_next [5] (by kernel_rfl) (by kernel_rfl) ⟨⟨_, _, rfl, rfl, ?_⟩, trivial⟩
      refine s_callf [] [] [_, _] rfl rfl Try.call71 rfl ((c_best N va arcs _ _ hV (zero_wts arcs) _ (hA.le S88.le) (vec_rd (S88.at 3 rfl))).mono ?_)
      rintro _ w93 (⟨bc2193, vx2193, x2193, mo2193, p2193, rfl, hO2193, hC2193, hmo2193⟩ | ⟨A2193, vn2193, ns2193, rfl, hN2193, hl2193, hh2193⟩)
      · skip
        have S94 := S88.join hO2193
        refine ⟨.of_le hO2193.le, ?_⟩
        have hy95 : Keep (yng w9) w9 w93 := hy92.trans (Keep.of_le hO2193.le)
        refine e_exact 6 _ (by kernel_rfl) rfl rfl (by kernel_rfl) rfl (ex_x rfl (fun w1 h1 => x_mv rfl)) ?_
        refine e_exact 7 _ (by kernel_rfl) rfl rfl (by kernel_rfl) rfl (ex_x rfl (fun w1 h1 => x_extract rfl rfl)) ?_
        refine e_exact 8 _ (by kernel_rfl) rfl rfl (by kernel_rfl) rfl (ex_x rfl (fun w1 h1 => x_extract rfl rfl)) ?_
        refine e_exact 9 _ (by kernel_rfl) rfl rfl (by kernel_rfl) rfl (ex_x rfl (fun w1 h1 => x_extract rfl rfl)) ?_
        refine e_exact 11 _ (by kernel_rfl) rfl rfl (by kernel_rfl) rfl (ex_x rfl (fun w1 h1 => x_as rfl)) ?_
        refine e_next [12] (by kernel_rfl) (by kernel_rfl) ⟨⟨_, _, rfl, rfl, ?_⟩, trivial⟩
        refine s_stores (vs := [_, _]) S94 2 rfl rfl rfl rfl (ones_cons rfl (ones_cons rfl ones_nil)) Try.sizeOf43 (by first | exact Nat.le_refl _ | simp) (splice_all rfl) ?_
        intro w96 S97 hk98
        refine ⟨(yng_blk hy18 hb85 hk98), ?_⟩
        have hy99 : Keep (yng w9) w9 w96 := hy95.trans ((yng_blk hy18 hb85 hk98))
        refine e_exact 13 _ (by kernel_rfl) rfl rfl (by kernel_rfl) rfl (ex_x rfl (fun w1 h1 => x_as rfl)) ?_
        refine e_done (by kernel_rfl) ?_
        refine l_nil ?_
        refine r_seq ?_
        refine r_region ?_
        refine l_x rfl (x_load rfl (ld_blks (S97.blk 2 rfl) Try.isAgg43 Try.sizeOf43 rfl rfl)) ?_
        refine l_x rfl (x_mv rfl) ?_
        refine l_x rfl (x_not rfl) ?_
        refine l_stores (vs := [_, _]) S97 1 rfl rfl rfl rfl (ones_cons rfl (ones_cons rfl ones_nil)) Try.sizeOf43 (by first | exact Nat.le_refl _ | simp) (splice_all rfl) ?_
        intro w100 S101 hk102
        refine l_x rfl (x_as rfl) ?_
        refine l_x rfl (x_as rfl) ?_
        refine l_nil ?_
        refine r_ret (rs := [.cell 2 43, .tmp 3, .tmp 4]) [_, _, _] Try.func44 rfl ⟨⟨_, rfl, (ld_blks (S101.blk 1 rfl) Try.isAgg43 Try.sizeOf43 rfl rfl)⟩, rfl, rfl, trivial⟩ ?_
        exact ⟨_, _, [], _, _, rfl, New.nilvec .., S101.le, .yes hV (hC2193.circ hV hmo2193)⟩
      · skip
        have S103 := S88.add hl2193 hN2193
        refine ⟨.of_le hl2193, ?_⟩
        have hy104 : Keep (yng w9) w9 w93 := hy92.trans (Keep.of_le hl2193)
        refine e_exact 6 _ (by kernel_rfl) rfl rfl (by kernel_rfl) rfl (ex_x rfl (fun w1 h1 => x_mv rfl)) ?_
        refine e_exact 7 _ (by kernel_rfl) rfl rfl (by kernel_rfl) rfl (ex_x rfl (fun w1 h1 => x_extract rfl rfl)) ?_
        refine e_exact 8 _ (by kernel_rfl) rfl rfl (by kernel_rfl) rfl (ex_x rfl (fun w1 h1 => x_extract rfl rfl)) ?_
        refine e_exact 9 _ (by kernel_rfl) rfl rfl (by kernel_rfl) rfl (ex_x rfl (fun w1 h1 => x_extract rfl rfl)) ?_
        refine e_exact 11 _ (by kernel_rfl) rfl rfl (by kernel_rfl) rfl (ex_x rfl (fun w1 h1 => x_as rfl)) ?_
        refine e_next [12] (by kernel_rfl) (by kernel_rfl) ⟨⟨_, _, rfl, rfl, ?_⟩, trivial⟩
        refine s_stores (vs := [_, _]) S103 2 rfl rfl rfl rfl (ones_cons rfl (ones_cons (Rd.one (vec_rd (S103.at 4 rfl))) ones_nil)) Try.sizeOf43 (by first | exact Nat.le_refl _ | simp) (splice_all rfl) ?_
        intro w105 S106 hk107
        refine ⟨(yng_blk hy18 hb85 hk107), ?_⟩
        have hy108 : Keep (yng w9) w9 w105 := hy104.trans ((yng_blk hy18 hb85 hk107))
        refine e_exact 13 _ (by kernel_rfl) rfl rfl (by kernel_rfl) rfl (ex_x rfl (fun w1 h1 => x_as rfl)) ?_
        refine e_done (by kernel_rfl) ?_
        refine l_nil ?_
        refine r_seq ?_
        refine r_region ?_
        refine l_x rfl (x_load rfl (ld_blks (S106.blk 2 rfl) Try.isAgg43 Try.sizeOf43 rfl rfl)) ?_
        refine l_x rfl (x_mv rfl) ?_
        refine l_x rfl (x_not rfl) ?_
        refine l_stores (vs := [_, _]) S106 1 rfl rfl rfl rfl (ones_cons rfl (ones_cons (Rd.one (vec_rd (S106.at 4 rfl))) ones_nil)) Try.sizeOf43 (by first | exact Nat.le_refl _ | simp) (splice_all rfl) ?_
        intro w109 S110 hk111
        refine l_x rfl (x_as rfl) ?_
        refine l_x rfl (x_as rfl) ?_
        refine l_nil ?_
        refine r_ret (rs := [.cell 2 43, .tmp 3, .tmp 4]) [_, _, _] Try.func44 rfl ⟨⟨_, rfl, (ld_blks (S110.blk 1 rfl) Try.isAgg43 Try.sizeOf43 rfl rfl)⟩, rfl, rfl, trivial⟩ ?_
        exact ⟨_, _, _, _, _, rfl, S110.new 4 rfl, S110.le, .no hV hh2193⟩

/-- couchant/flow.Greatest$1. -/
theorem c_Greatest1 (N : Int) (va : Value) (arcs : List Arc) (vw : Value) (wl : List Int) (b0 b1 : Nat) (hmwl : wl.length ≤ 9223372036854775807) (w : World) (h0 : Blk w b0 [.int .i64 N, va] 24) (h1 : Blk w b1 [vw] 25)  (hA : Rd EA w va arcs) (Hwl : Rd EI w vw wl) :
    Cl Try.prog 69 #[.pointer (some ⟨b0, 0, none⟩), .pointer (some ⟨b1, 0, none⟩)] w fun v w' => v = .bool (row wl arcs.length (-1000) 1000) ∧ Le w w' := by
  refine fn_of_run (args := [_, _]) 6 Try.func69 rfl rfl rfl fun cs => ?_
  have S := Own.start (X := nob) w
  refine r_seq ?_
  refine r_region ?_
  refine l_x rfl (x_as rfl) ?_
  refine l_nil ?_
  refine r_seq ?_
  refine r_region ?_
  refine l_x rfl (x_load rfl (ld_blks (h0.keep S.le id) Try.isAgg24 Try.sizeOf24 rfl rfl)) ?_
  refine l_x rfl (x_load rfl (ld_blk (h1.keep S.le id) Try.isAgg25 rfl)) ?_
  refine l_call [] [] [_, _] rfl rfl Try.call70 rfl (c_weights N _ arcs _ _ (by omega) _ (hA.le S.le) (Hwl.le S.le)) ?_
  rintro _ w1 ⟨rfl, hl3⟩
  have S2 := S.step hl3
  refine l_x rfl (x_as rfl) ?_
  refine l_nil ?_
  refine r_ret (rs := [.tmp 2]) [_] Try.func69 rfl ⟨rfl, trivial⟩ ?_
  exact ⟨congrArg Value.bool (by simp [*]), S2.le⟩

/-- couchant/flow.Greatest. -/
theorem c_Greatest (N : Int) (va : Value) (arcs : List Arc) (vw : Value) (wl : List Int) (hmwl : wl.length ≤ 9223372036854775807) (w : World) (hA : Rd EA w va arcs) (Hwl : Rd EI w vw wl) :
    Cl Try.prog 22 #[.agg #[.int .i64 N, va], vw] w fun v w' => ∃ n vx x vp p e, v = .tuple #[.int .i64 n, vx, vp, .int .i64 e] ∧ Own nob w w' [vec EI vx x, vec EI vp p] ∧ GrR N arcs wl n x p e := by
  refine fn_of_run (args := [_, _]) 39 Try.func22 rfl rfl rfl fun cs => ?_
  have S := Own.start (X := nob) w
  refine r_seq ?_
  refine r_region ?_
  refine l_box S rfl rfl ?_
  intro b4 w1 S2 hl3
  refine l_box S2 rfl (Rd.cells (Hwl.le S2.le)) ?_
  intro b8 w5 S6 hl7
  refine l_x rfl (x_as rfl) ?_
  refine l_x rfl (x_as rfl) ?_
  refine l_x rfl (x_as rfl) ?_
  refine l_x rfl (x_as rfl) ?_
  refine l_nil ?_
  refine r_seq ?_
  refine r_seq ?_
  refine r_region ?_
  refine l_x rfl (x_load rfl (ld_blks (S6.blk 0 rfl) Try.isAgg24 Try.sizeOf24 rfl rfl)) ?_
  refine l_x rfl (x_func rfl rfl) ?_
  refine l_call [] [] [_, _] rfl rfl Try.call62 rfl (c_asked N va arcs (row wl arcs.length (-1000) 1000) 69 [_, _] _ (hA.le S6.le) Try.call69 (fun _ w1 h1 => c_Greatest1 N va arcs vw wl _ _ (by omega) w1 ((S6.blk 0 rfl).keep h1 id) ((S6.blk 1 rfl).keep h1 id) (hA.le (S6.le.trans h1)) (Hwl.le (S6.le.trans h1)))) ?_
  rintro _ w9 ⟨rfl, hl11⟩
  have S10 := S6.step hl11
  refine l_x rfl (x_as rfl) ?_
  refine l_nil ?_
  refine r_seq ?_
  refine r_region ?_
  refine l_x rfl (x_mv rfl) ?_
  refine l_x rfl (x_neq rfl rfl) ?_
  refine l_nil ?_
  refine r_ifd rfl (fun hc16 => ?_) (fun hc16 => ?_)
  · skip
    refine r_seq ?_
    refine r_region ?_
    refine l_x rfl (x_mv rfl) ?_
    refine l_x rfl (x_as rfl) ?_
    refine l_x rfl (x_as rfl) ?_
    refine l_x rfl (x_as rfl) ?_
    refine l_x rfl (x_as rfl) ?_
    refine l_nil ?_
    refine r_ret (rs := [.tmp 4, .tmp 5, .tmp 6, .tmp 7]) [_, _, _, _] Try.func22 rfl ⟨rfl, rfl, rfl, rfl, trivial⟩ ?_
    exact ⟨_, _, [], _, [], _, rfl, (S10.nilvec (E := EI)).nilvec (E := EI) |>.pick [2, 3] (by decide) rfl, .bad hc16⟩
  · skip
    have h0 := Decidable.not_not.1 hc16
    obtain ⟨hV, hw0⟩ := askw_zero.1 h0
    have hLx := hV.len
    refine r_skip ?_
    refine r_seq ?_
    refine r_region ?_
    refine l_x rfl (x_load rfl (ld_blks (S10.blk 0 rfl) Try.isAgg24 Try.sizeOf24 rfl rfl)) ?_
    refine l_x rfl (x_load rfl (ld_blk (S10.blk 1 rfl) Try.isAgg25 rfl)) ?_
    refine l_call [] [] [_, _] rfl rfl Try.call71 rfl (c_best N va arcs _ _ hV hw0 _ (hA.le S10.le) (Hwl.le S10.le)) ?_
    rintro _ w12 (⟨bc2112, vx2112, x2112, mo2112, p2112, rfl, hO2112, hC2112, hmo2112⟩ | ⟨A2112, vn2112, ns2112, rfl, hN2112, hl2112, hh2112⟩)
    · skip
      have S13 := S10.join hO2112
      refine l_x rfl (x_mv rfl) ?_
      refine l_x rfl (x_extract rfl rfl) ?_
      refine l_x rfl (x_extract rfl rfl) ?_
      refine l_x rfl (x_extract rfl rfl) ?_
      refine l_alloc S13 rfl Try.zeroValue43 rfl ?_
      intro b17 w14 S15 hl16
      refine l_x rfl (x_as rfl) ?_
      refine l_stores (vs := [_, _]) S15 4 rfl rfl rfl rfl (ones_cons rfl (ones_cons rfl ones_nil)) Try.sizeOf43 (by first | exact Nat.le_refl _ | simp) (splice_all rfl) ?_
      intro w18 S19 hk20
      refine l_x rfl (x_as rfl) ?_
      refine l_nil ?_
      refine r_seq ?_
      refine r_seq ?_
      refine r_region ?_
      refine l_x rfl (x_mv rfl) ?_
      refine l_x rfl (x_not rfl) ?_
      refine l_nil ?_
      refine r_false rfl ?_
      refine r_skip ?_
      refine r_seq ?_
      have S21 := S19.pick (L' := [_, _, _, _, _]) [0, 1, 4, 2, 3] (by decide) rfl
      have hcirc := hC2112.circ hV hmo2112
      have hxA := hcirc.amts hV
      refine r_drawE 16 (Rsc.fp (pack [blk bc2112 (carC N va vx2112 vw mo2112 p2112) 91, vec EI vx2112 x2112])) Try.mixed (by kernel_rfl) ?_
      intro w22 hl23
      have S24 := S21.step hl23
      refine e_exact 0 _ (by kernel_rfl) rfl rfl (by kernel_rfl) rfl (ex_x rfl (fun w1 h1 => x_load rfl (ld_blk (((Own.pack (A := [_, _, _]) (L := [_, _]) S24).under 3 rfl h1).blk 1 rfl) Try.isAgg25 rfl))) ?_
      refine e_exact 1 _ (by kernel_rfl) rfl rfl (by kernel_rfl) rfl (ex_x rfl (fun w1 h1 => x_mv rfl)) ?_
      refine e_exact 2 _ (by kernel_rfl) rfl rfl (by kernel_rfl) rfl (ex_x rfl (fun w1 h1 => x_nilCheck rfl)) ?_
      refine e_exact 3 _ (by kernel_rfl) rfl rfl (by kernel_rfl) rfl (ex_x rfl (fun w1 h1 => x_fieldAddr rfl Try.runUnderlying91 rfl Try.sizeOf25 (by decide))) ?_
      refine e_exact 6 _ (by kernel_rfl) rfl rfl (by kernel_rfl) rfl (ex_x rfl (fun w1 h1 => x_mv rfl)) ?_
      refine e_exact 7 _ (by kernel_rfl) rfl rfl (by kernel_rfl) rfl (ex_x rfl (fun w1 h1 => x_nilCheck rfl)) ?_
      refine e_exact 8 _ (by kernel_rfl) rfl rfl (by kernel_rfl) rfl (ex_x rfl (fun w1 h1 => x_fieldAddr rfl Try.runUnderlying91 rfl Try.sizeOf25 (by decide))) ?_
      refine e_exact 10 _ (by kernel_rfl) rfl rfl (by kernel_rfl) rfl (ex_x rfl (fun w1 h1 => x_mv rfl)) ?_
      refine e_next [4, 9] (by kernel_rfl) (by kernel_rfl) ⟨⟨_, _, rfl, rfl, ?_⟩, ⟨_, _, rfl, rfl, ?_⟩, trivial⟩
      · skip
        refine s_x rfl (x_load rfl (ld_blk (S24.blk 3 rfl) Try.isAgg25 rfl)) ?_
        refine ⟨Keep.refl _ _, ?_⟩
        refine e_next [5, 9] (by kernel_rfl) (by kernel_rfl) ⟨⟨_, _, rfl, rfl, ?_⟩, ⟨_, _, rfl, rfl, ?_⟩, trivial⟩
        · skip
          refine s_callf [] [] [_, _] rfl rfl Try.call72 rfl ((c_sum arcs N _ _ _ _ hV hw0 hxA _ (Hwl.le S24.le) (vec_rd (S24.at 4 rfl))).mono ?_)
          rintro _ w25 ⟨rfl, hl3225⟩
          have S26 := S24.step hl3225
          refine ⟨.of_le hl3225, ?_⟩
          refine e_next [9, 11] (by kernel_rfl) (by kernel_rfl) ⟨⟨_, _, rfl, rfl, ?_⟩, ⟨_, _, rfl, rfl, ?_⟩, trivial⟩
          · skip
            refine s_x rfl (x_load rfl (ld_blk (S26.blk 3 rfl) Try.isAgg25 rfl)) ?_
            refine ⟨Keep.refl _ _, ?_⟩
            refine e_next [11] (by kernel_rfl) (by kernel_rfl) ⟨⟨_, _, rfl, rfl, ?_⟩, trivial⟩
            refine s_callf [] [] [_] rfl rfl Try.call73 rfl ((c_shown N va arcs vx2112 x2112 vw wl mo2112 p2112 hV hw0 hC2112 bc2112 _ w (fun b hb => ((Own.pack (A := [_, _, _]) (L := [_, _]) S26).bd 3 _ rfl b hb).2.resolve_right id) hA Hwl _ (((Own.pack (A := [_, _, _]) (L := [_, _]) S26).lend 3 rfl).open) S26.le).mono ?_)
            rintro v3827 w27 ⟨q3827, hO3827, hP3827, hS3827⟩
            have S28 := Own.unpack (A := [_, _, _]) (L := [_, _, _]) ((Own.pack (A := [_, _, _]) (L := [_, _]) S26).back 3 rfl hO3827.close)
            refine ⟨hO3827.keep, ?_⟩
            refine e_exact 12 _ (by kernel_rfl) rfl rfl (by kernel_rfl) rfl (ex_x rfl (fun w1 h1 => x_as rfl)) ?_
            refine e_exact 13 _ (by kernel_rfl) rfl rfl (by kernel_rfl) rfl (ex_x rfl (fun w1 h1 => x_as rfl)) ?_
            refine e_exact 14 _ (by kernel_rfl) rfl rfl (by kernel_rfl) rfl (ex_x rfl (fun w1 h1 => x_as rfl)) ?_
            refine e_exact 15 _ (by kernel_rfl) rfl rfl (by kernel_rfl) rfl (ex_x rfl (fun w1 h1 => x_as rfl)) ?_
            refine e_done (by kernel_rfl) ?_
            refine l_nil ?_
            refine r_ret (rs := [.tmp 4, .tmp 5, .tmp 6, .tmp 7]) [_, _, _, _] Try.func22 rfl ⟨rfl, rfl, rfl, rfl, trivial⟩ ?_
            exact ⟨_, _, _, _, _, _, rfl, S28.pick [4, 5] (by decide) rfl, .yes hV hw0 ⟨hcirc, hP3827, hS3827⟩⟩
          · skip
            refine s_callf [] [] [_] rfl rfl Try.call73 rfl ((c_shown N va arcs vx2112 x2112 vw wl mo2112 p2112 hV hw0 hC2112 bc2112 _ w (fun b hb => ((Own.pack (A := [_, _, _]) (L := [_, _]) S26).bd 3 _ rfl b hb).2.resolve_right id) hA Hwl _ (((Own.pack (A := [_, _, _]) (L := [_, _]) S26).lend 3 rfl).open) S26.le).mono ?_)
            rintro v3829 w29 ⟨q3829, hO3829, hP3829, hS3829⟩
            have S30 := Own.unpack (A := [_, _, _]) (L := [_, _, _]) ((Own.pack (A := [_, _, _]) (L := [_, _]) S26).back 3 rfl hO3829.close)
            refine ⟨hO3829.keep, ?_⟩
            refine e_exact 12 _ (by kernel_rfl) rfl rfl (by kernel_rfl) rfl (ex_x rfl (fun w1 h1 => x_as rfl)) ?_
            refine e_next [9] (by kernel_rfl) (by kernel_rfl) ⟨⟨_, _, rfl, rfl, ?_⟩, trivial⟩
            refine s_x rfl (x_load rfl (ld_blk (S30.blk 3 rfl) Try.isAgg25 rfl)) ?_
            refine ⟨Keep.refl _ _, ?_⟩
            refine e_exact 13 _ (by kernel_rfl) rfl rfl (by kernel_rfl) rfl (ex_x rfl (fun w1 h1 => x_as rfl)) ?_
            refine e_exact 14 _ (by kernel_rfl) rfl rfl (by kernel_rfl) rfl (ex_x rfl (fun w1 h1 => x_as rfl)) ?_
            refine e_exact 15 _ (by kernel_rfl) rfl rfl (by kernel_rfl) rfl (ex_x rfl (fun w1 h1 => x_as rfl)) ?_
            refine e_done (by kernel_rfl) ?_
            refine l_nil ?_
            refine r_ret (rs := [.tmp 4, .tmp 5, .tmp 6, .tmp 7]) [_, _, _, _] Try.func22 rfl ⟨rfl, rfl, rfl, rfl, trivial⟩ ?_
            exact ⟨_, _, _, _, _, _, rfl, S30.pick [4, 5] (by decide) rfl, .yes hV hw0 ⟨hcirc, hP3829, hS3829⟩⟩
        · skip
          refine s_x rfl (x_load rfl (ld_blk (S24.blk 3 rfl) Try.isAgg25 rfl)) ?_
          refine ⟨Keep.refl _ _, ?_⟩
          refine e_next [5] (by kernel_rfl) (by kernel_rfl) ⟨⟨_, _, rfl, rfl, ?_⟩, trivial⟩
          refine s_callf [] [] [_, _] rfl rfl Try.call72 rfl ((c_sum arcs N _ _ _ _ hV hw0 hxA _ (Hwl.le S24.le) (vec_rd (S24.at 4 rfl))).mono ?_)
          rintro _ w31 ⟨rfl, hl3231⟩
          have S32 := S24.step hl3231
          refine ⟨.of_le hl3231, ?_⟩
          refine e_next [11] (by kernel_rfl) (by kernel_rfl) ⟨⟨_, _, rfl, rfl, ?_⟩, trivial⟩
          refine s_callf [] [] [_] rfl rfl Try.call73 rfl ((c_shown N va arcs vx2112 x2112 vw wl mo2112 p2112 hV hw0 hC2112 bc2112 _ w (fun b hb => ((Own.pack (A := [_, _, _]) (L := [_, _]) S32).bd 3 _ rfl b hb).2.resolve_right id) hA Hwl _ (((Own.pack (A := [_, _, _]) (L := [_, _]) S32).lend 3 rfl).open) S32.le).mono ?_)
          rintro v3833 w33 ⟨q3833, hO3833, hP3833, hS3833⟩
          have S34 := Own.unpack (A := [_, _, _]) (L := [_, _, _]) ((Own.pack (A := [_, _, _]) (L := [_, _]) S32).back 3 rfl hO3833.close)
          refine ⟨hO3833.keep, ?_⟩
          refine e_exact 12 _ (by kernel_rfl) rfl rfl (by kernel_rfl) rfl (ex_x rfl (fun w1 h1 => x_as rfl)) ?_
          refine e_exact 13 _ (by kernel_rfl) rfl rfl (by kernel_rfl) rfl (ex_x rfl (fun w1 h1 => x_as rfl)) ?_
          refine e_exact 14 _ (by kernel_rfl) rfl rfl (by kernel_rfl) rfl (ex_x rfl (fun w1 h1 => x_as rfl)) ?_
          refine e_exact 15 _ (by kernel_rfl) rfl rfl (by kernel_rfl) rfl (ex_x rfl (fun w1 h1 => x_as rfl)) ?_
          refine e_done (by kernel_rfl) ?_
          refine l_nil ?_
          refine r_ret (rs := [.tmp 4, .tmp 5, .tmp 6, .tmp 7]) [_, _, _, _] Try.func22 rfl ⟨rfl, rfl, rfl, rfl, trivial⟩ ?_
          exact ⟨_, _, _, _, _, _, rfl, S34.pick [4, 5] (by decide) rfl, .yes hV hw0 ⟨hcirc, hP3833, hS3833⟩⟩
      · skip
        refine s_x rfl (x_load rfl (ld_blk (S24.blk 3 rfl) Try.isAgg25 rfl)) ?_
        refine ⟨Keep.refl _ _, ?_⟩
        refine e_next [4] (by kernel_rfl) (by kernel_rfl) ⟨⟨_, _, rfl, rfl, ?_⟩, trivial⟩
        refine s_x rfl (x_load rfl (ld_blk (S24.blk 3 rfl) Try.isAgg25 rfl)) ?_
        refine ⟨Keep.refl _ _, ?_⟩
        refine e_next [5] (by kernel_rfl) (by kernel_rfl) ⟨⟨_, _, rfl, rfl, ?_⟩, trivial⟩
        refine s_callf [] [] [_, _] rfl rfl Try.call72 rfl ((c_sum arcs N _ _ _ _ hV hw0 hxA _ (Hwl.le S24.le) (vec_rd (S24.at 4 rfl))).mono ?_)
        rintro _ w35 ⟨rfl, hl3235⟩
        have S36 := S24.step hl3235
        refine ⟨.of_le hl3235, ?_⟩
        refine e_next [11] (by kernel_rfl) (by kernel_rfl) ⟨⟨_, _, rfl, rfl, ?_⟩, trivial⟩
        refine s_callf [] [] [_] rfl rfl Try.call73 rfl ((c_shown N va arcs vx2112 x2112 vw wl mo2112 p2112 hV hw0 hC2112 bc2112 _ w (fun b hb => ((Own.pack (A := [_, _, _]) (L := [_, _]) S36).bd 3 _ rfl b hb).2.resolve_right id) hA Hwl _ (((Own.pack (A := [_, _, _]) (L := [_, _]) S36).lend 3 rfl).open) S36.le).mono ?_)
        rintro v3837 w37 ⟨q3837, hO3837, hP3837, hS3837⟩
        have S38 := Own.unpack (A := [_, _, _]) (L := [_, _, _]) ((Own.pack (A := [_, _, _]) (L := [_, _]) S36).back 3 rfl hO3837.close)
        refine ⟨hO3837.keep, ?_⟩
        refine e_exact 12 _ (by kernel_rfl) rfl rfl (by kernel_rfl) rfl (ex_x rfl (fun w1 h1 => x_as rfl)) ?_
        refine e_exact 13 _ (by kernel_rfl) rfl rfl (by kernel_rfl) rfl (ex_x rfl (fun w1 h1 => x_as rfl)) ?_
        refine e_exact 14 _ (by kernel_rfl) rfl rfl (by kernel_rfl) rfl (ex_x rfl (fun w1 h1 => x_as rfl)) ?_
        refine e_exact 15 _ (by kernel_rfl) rfl rfl (by kernel_rfl) rfl (ex_x rfl (fun w1 h1 => x_as rfl)) ?_
        refine e_done (by kernel_rfl) ?_
        refine l_nil ?_
        refine r_ret (rs := [.tmp 4, .tmp 5, .tmp 6, .tmp 7]) [_, _, _, _] Try.func22 rfl ⟨rfl, rfl, rfl, rfl, trivial⟩ ?_
        exact ⟨_, _, _, _, _, _, rfl, S38.pick [4, 5] (by decide) rfl, .yes hV hw0 ⟨hcirc, hP3837, hS3837⟩⟩
    · skip
      have S39 := S10.add hl2112 hN2112
      refine l_x rfl (x_mv rfl) ?_
      refine l_x rfl (x_extract rfl rfl) ?_
      refine l_x rfl (x_extract rfl rfl) ?_
      refine l_x rfl (x_extract rfl rfl) ?_
      refine l_alloc S39 rfl Try.zeroValue43 rfl ?_
      intro b43 w40 S41 hl42
      refine l_x rfl (x_as rfl) ?_
      refine l_stores (vs := [_, _]) S41 3 rfl rfl rfl rfl (ones_cons rfl (ones_cons (Rd.one (vec_rd (S41.at 2 rfl))) ones_nil)) Try.sizeOf43 (by first | exact Nat.le_refl _ | simp) (splice_all rfl) ?_
      intro w44 S45 hk46
      refine l_x rfl (x_as rfl) ?_
      refine l_nil ?_
      refine r_seq ?_
      refine r_seq ?_
      refine r_region ?_
      refine l_x rfl (x_mv rfl) ?_
      refine l_x rfl (x_not rfl) ?_
      refine l_nil ?_
      refine r_true rfl ?_
      refine r_seq ?_
      refine r_region ?_
      refine l_x rfl (x_as rfl) ?_
      refine l_x rfl (x_as rfl) ?_
      refine l_x rfl (x_as rfl) ?_
      refine l_x rfl (x_as rfl) ?_
      refine l_nil ?_
      refine r_ret (rs := [.tmp 4, .tmp 5, .tmp 6, .tmp 7]) [_, _, _, _] Try.func22 rfl ⟨rfl, rfl, rfl, rfl, trivial⟩ ?_
      exact ⟨_, _, [], _, [], _, rfl, (S45.nilvec (E := EI)).nilvec (E := EI) |>.pick [4, 5] (by decide) rfl, .no hV hw0 ⟨_, _, hh2112⟩⟩

end Go.Proofs

/-
  Contracts of functions of the program: each by symbolic execution of its text.
-/
namespace Go.Proofs
open Go Go.Vk Go.Vk.Flow

/-- couchant/flow.Least$1. -/
theorem c_Least1 (N : Int) (va : Value) (arcs : List Arc) (vw : Value) (wl : List Int) (b0 b1 : Nat) (hmwl : wl.length ≤ 9223372036854775807) (w : World) (h0 : Blk w b0 [.int .i64 N, va] 24) (h1 : Blk w b1 [vw] 25)  (hA : Rd EA w va arcs) (Hwl : Rd EI w vw wl) :
    Cl Try.prog 100 #[.pointer (some ⟨b0, 0, none⟩), .pointer (some ⟨b1, 0, none⟩)] w fun v w' => v = .bool (row wl arcs.length (-1000) 1000) ∧ Le w w' := by
  refine fn_of_run (args := [_, _]) 6 Try.func100 rfl rfl rfl fun cs => ?_
  have S := Own.start (X := nob) w
  refine r_seq ?_
  refine r_region ?_
  refine l_x rfl (x_as rfl) ?_
  refine l_nil ?_
  refine r_seq ?_
  refine r_region ?_
  refine l_x rfl (x_load rfl (ld_blks (h0.keep S.le id) Try.isAgg24 Try.sizeOf24 rfl rfl)) ?_
  refine l_x rfl (x_load rfl (ld_blk (h1.keep S.le id) Try.isAgg25 rfl)) ?_
  refine l_call [] [] [_, _] rfl rfl Try.call70 rfl (c_weights N _ arcs _ _ (by omega) _ (hA.le S.le) (Hwl.le S.le)) ?_
  rintro _ w1 ⟨rfl, hl3⟩
  have S2 := S.step hl3
  refine l_x rfl (x_as rfl) ?_
  refine l_nil ?_
  refine r_ret (rs := [.tmp 2]) [_] Try.func100 rfl ⟨rfl, trivial⟩ ?_
  exact ⟨congrArg Value.bool (by simp [*]), S2.le⟩

/-- couchant/flow.Least. -/
theorem c_Least (N : Int) (va : Value) (arcs : List Arc) (vw : Value) (wl : List Int) (hmwl : wl.length ≤ 9223372036854775807) (w : World) (hA : Rd EA w va arcs) (Hwl : Rd EI w vw wl) :
    Cl Try.prog 42 #[.agg #[.int .i64 N, va], vw] w fun v w' => ∃ n vx x vp p e, v = .tuple #[.int .i64 n, vx, vp, .int .i64 e] ∧ Own nob w w' [vec EI vx x, vec EI vp p] ∧ GrR N arcs (wl.map (- ·)) (-n) x p e := by
  refine fn_of_run (args := [_, _]) 33 Try.func42 rfl rfl rfl fun cs => ?_
  have S := Own.start (X := nob) w
  refine r_seq ?_
  refine r_region ?_
  refine l_box S rfl rfl ?_
  intro b4 w1 S2 hl3
  refine l_box S2 rfl (Rd.cells (Hwl.le S2.le)) ?_
  intro b8 w5 S6 hl7
  refine l_x rfl (x_as rfl) ?_
  refine l_x rfl (x_as rfl) ?_
  refine l_x rfl (x_as rfl) ?_
  refine l_x rfl (x_as rfl) ?_
  refine l_nil ?_
  refine r_seq ?_
  refine r_seq ?_
  refine r_region ?_
  refine l_x rfl (x_load rfl (ld_blks (S6.blk 0 rfl) Try.isAgg24 Try.sizeOf24 rfl rfl)) ?_
  refine l_x rfl (x_func rfl rfl) ?_
  refine l_call [] [] [_, _] rfl rfl Try.call62 rfl (c_asked N va arcs (row wl arcs.length (-1000) 1000) 100 [_, _] _ (hA.le S6.le) Try.call100 (fun _ w1 h1 => c_Least1 N va arcs vw wl _ _ (by omega) w1 ((S6.blk 0 rfl).keep h1 id) ((S6.blk 1 rfl).keep h1 id) (hA.le (S6.le.trans h1)) (Hwl.le (S6.le.trans h1)))) ?_
  rintro _ w9 ⟨rfl, hl11⟩
  have S10 := S6.step hl11
  refine l_x rfl (x_as rfl) ?_
  refine l_nil ?_
  refine r_seq ?_
  refine r_region ?_
  refine l_x rfl (x_mv rfl) ?_
  refine l_x rfl (x_neq rfl rfl) ?_
  refine l_nil ?_
  refine r_ifd rfl (fun hc17 => ?_) (fun hc17 => ?_)
  · skip
    refine r_seq ?_
    refine r_region ?_
    refine l_x rfl (x_mv rfl) ?_
    refine l_x rfl (x_as rfl) ?_
    refine l_x rfl (x_as rfl) ?_
    refine l_x rfl (x_as rfl) ?_
    refine l_x rfl (x_as rfl) ?_
    refine l_nil ?_
    refine r_ret (rs := [.tmp 4, .tmp 5, .tmp 6, .tmp 7]) [_, _, _, _] Try.func42 rfl ⟨rfl, rfl, rfl, rfl, trivial⟩ ?_
    exact ⟨_, _, [], _, [], _, rfl, (S10.nilvec (E := EI)).nilvec (E := EI) |>.pick [2, 3] (by decide) rfl, GrR.badneg hc17⟩
  · skip
    have h0 := Decidable.not_not.1 hc17
    obtain ⟨hV, hw0⟩ := askw_zero.1 h0
    have hLx := hV.len
    refine r_skip ?_
    refine r_seq ?_
    refine r_drawE 13 nob Try.mixed (by kernel_rfl) ?_
    intro w12 hl13
    have S14 := S10.step hl13
    refine e_exact 0 _ (by kernel_rfl) rfl rfl (by kernel_rfl) rfl (ex_x rfl (fun w1 h1 => x_load rfl (ld_blks ((S14.step h1).blk 0 rfl) Try.isAgg24 Try.sizeOf24 rfl rfl))) ?_
    refine e_exact 1 _ (by kernel_rfl) rfl rfl (by kernel_rfl) rfl (ex_x rfl (fun w1 h1 => x_load rfl (ld_blk ((S14.step h1).blk 1 rfl) Try.isAgg25 rfl))) ?_
    refine e_next [2] (by kernel_rfl) (by kernel_rfl) ⟨⟨_, _, rfl, rfl, ?_⟩, trivial⟩
    refine s_callf [] [] [_] rfl rfl Try.call101 rfl ((c_opposite _ wl (by have := hw0.len; omega) hw0.bd _ (Hwl.le S14.le)).mono ?_)
    rintro v2215 w15 ⟨hN2215, hl2215⟩
    have S16 := S14.add hl2215 hN2215
    refine ⟨.of_le hl2215, ?_⟩
    refine e_next [3] (by kernel_rfl) (by kernel_rfl) ⟨⟨_, _, rfl, rfl, ?_⟩, trivial⟩
    refine s_callf [] [] [_, _] rfl rfl Try.call22 rfl ((c_Greatest N va arcs _ _ (by first | omega | (rw [unit_length]; omega) | (rw [List.length_map]; omega) | (rw [List.length_replicate]; omega)) _ (hA.le S16.le) (vec_rd (S16.at 2 rfl))).mono ?_)
    rintro _ w17 ⟨n2317, vx2317, x2317, vp2317, p2317, e2317, rfl, hO2317, hR2317⟩
    have S18 := S16.join hO2317
    refine ⟨.of_le hO2317.le, ?_⟩
    have hb2317 := hR2317.bd
    refine e_exact 4 _ (by kernel_rfl) rfl rfl (by kernel_rfl) rfl (ex_x rfl (fun w1 h1 => x_mv rfl)) ?_
    refine e_exact 5 _ (by kernel_rfl) rfl rfl (by kernel_rfl) rfl (ex_x rfl (fun w1 h1 => x_extract rfl rfl)) ?_
    refine e_exact 6 _ (by kernel_rfl) rfl rfl (by kernel_rfl) rfl (ex_x rfl (fun w1 h1 => x_extract rfl rfl)) ?_
    refine e_exact 7 _ (by kernel_rfl) rfl rfl (by kernel_rfl) rfl (ex_x rfl (fun w1 h1 => x_extract rfl rfl)) ?_
    refine e_exact 8 _ (by kernel_rfl) rfl rfl (by kernel_rfl) rfl (ex_x rfl (fun w1 h1 => x_extract rfl rfl)) ?_
    refine e_exact 9 _ (by kernel_rfl) rfl rfl (by kernel_rfl) rfl (ex_x rfl (fun w1 h1 => x_as rfl)) ?_
    refine e_exact 10 _ (by kernel_rfl) rfl rfl (by kernel_rfl) rfl (ex_x rfl (fun w1 h1 => x_as rfl)) ?_
    refine e_exact 11 _ (by kernel_rfl) rfl rfl (by kernel_rfl) rfl (ex_x rfl (fun w1 h1 => x_as rfl)) ?_
    refine e_exact 12 _ (by kernel_rfl) rfl rfl (by kernel_rfl) rfl (ex_x rfl (fun w1 h1 => x_as rfl)) ?_
    refine e_done (by kernel_rfl) ?_
    refine l_nil ?_
    refine r_seq ?_
    refine r_region ?_
    refine l_x rfl (x_mv rfl) ?_
    refine l_x rfl (x_neg rfl (by omega)) ?_
    refine l_x rfl (x_mv rfl) ?_
    refine l_x rfl (x_mv rfl) ?_
    refine l_x rfl (x_mv rfl) ?_
    refine l_x rfl (x_as rfl) ?_
    refine l_x rfl (x_as rfl) ?_
    refine l_x rfl (x_as rfl) ?_
    refine l_x rfl (x_as rfl) ?_
    refine l_nil ?_
    refine r_ret (rs := [.tmp 4, .tmp 5, .tmp 6, .tmp 7]) [_, _, _, _] Try.func42 rfl ⟨rfl, rfl, rfl, rfl, trivial⟩ ?_
    exact ⟨_, _, _, _, _, _, rfl, S18.pick [3, 4] (by decide) rfl, by rw [Int.neg_neg]; exact hR2317⟩

/-- (couchant/flow.single).weigh. -/
theorem c_weigh (N : Int) (va : Value) (arcs : List Arc) (i : Nat) (k : Int) (hV : Valid N arcs) (hi : i < arcs.length) (w : World) (hA : Rd EA w va arcs) :
    Cl Try.prog 123 #[.agg #[.int .i64 N, va, .int .i64 (i : Int)], .int .i64 k] w fun v w' => New w w' (vec EI v (unit arcs.length i k)) ∧ Le w w' := by
  have hLx := hV.len
  refine fn_of_run (args := [_, _]) 17 Try.func123 rfl rfl rfl fun cs => ?_
  have S := Own.start (X := nob) w
  refine r_seq ?_
  refine r_region ?_
  refine l_box S rfl rfl ?_
  intro b4 w1 S2 hl3
  refine l_x rfl (x_as rfl) ?_
  refine l_nil ?_
  refine r_seq ?_
  refine r_region ?_
  refine l_x rfl (x_fieldAddr rfl Try.runUnderlying94 rfl Try.sizeOf24 (by decide)) ?_
  refine l_x rfl (x_fieldAddr rfl Try.runUnderlying24 rfl Try.sizeOf22 (by decide)) ?_
  refine l_x rfl (x_load rfl (ld_blk (S2.blk 0 rfl) Try.isAgg22 rfl)) ?_
  refine l_x rfl (x_len (hA.le S2.le) rfl Try.runUnderlying22) ?_
  refine l_make EI 0 S2 rfl Try.runUnderlying25 Try.sizeOf3 Try.typeInfo3 Try.zeroValue3 rfl rfl rfl rfl (Nat.le_refl _) (by unfold maxLen; omega) (by show _ * 8 ≤ _; omega) ?_
  intro v8 w5 hv9 S6 hl7
  refine l_x rfl (x_as rfl) ?_
  refine l_nil ?_
  refine r_seq ?_
  refine r_region ?_
  refine l_x rfl (x_mv rfl) ?_
  refine l_x rfl (x_fieldAddr rfl Try.runUnderlying94 rfl Try.sizeOf3 (by decide)) ?_
  refine l_x rfl (x_load rfl (ld_blk (S6.blk 0 rfl) Try.isAgg3 rfl)) ?_
  refine l_x rfl (x_mv rfl) ?_
  refine l_index EI rfl (vec_rd (S6.at 1 rfl)) rfl rfl Try.runUnderlying25 Try.sizeOf3 (by omega) (List.getElem?_eq_getElem (by rw [List.length_replicate]; omega)) ?_
  intro b10 o11 hat12 row13
  refine l_storevi (f := 0) S6 1 rfl rfl hat12 rfl rfl Try.sizeOf3 (List.getElem?_eq_getElem (by rw [List.length_replicate]; omega)) (by decide) rfl ?_
  intro w14 S15 hk16
  refine l_nil ?_
  refine r_seq ?_
  refine r_region ?_
  refine l_x rfl (x_mv rfl) ?_
  refine l_x rfl (x_as rfl) ?_
  refine l_nil ?_
  refine r_ret (rs := [.tmp 4]) [_] Try.func123 rfl ⟨rfl, trivial⟩ ?_
  exact ⟨S15.new 1 rfl, S15.le⟩

/-- (couchant/flow.single).low. -/
theorem c_low (N : Int) (va : Value) (arcs : List Arc) (i : Nat) (hV : Valid N arcs) (hi : i < arcs.length) (w : World) (hA : Rd EA w va arcs) :
    Cl Try.prog 75 #[.agg #[.int .i64 N, va, .int .i64 (i : Int)]] w fun v w' => ∃ n e, v = .tuple #[.int .i64 n, .int .i64 e] ∧ Le w w' ∧ EndR N arcs i (-1) n e := by
  have hLx := hV.len
  refine fn_of_run (args := [_]) 21 Try.func75 rfl rfl rfl fun cs => ?_
  have S := Own.start (X := nob) w
  refine r_seq ?_
  refine r_region ?_
  refine l_box S rfl rfl ?_
  intro b4 w1 S2 hl3
  refine l_x rfl (x_as rfl) ?_
  refine l_x rfl (x_as rfl) ?_
  refine l_nil ?_
  refine r_seq ?_
  refine r_drawE 14 nob Try.mixed (by kernel_rfl) ?_
  intro w5 hl6
  have S7 := S2.step hl6
  refine e_exact 0 _ (by kernel_rfl) rfl rfl (by kernel_rfl) rfl (ex_x rfl (fun w1 h1 => x_fieldAddr rfl Try.runUnderlying94 rfl Try.sizeOf24 (by decide))) ?_
  refine e_exact 1 _ (by kernel_rfl) rfl rfl (by kernel_rfl) rfl (ex_x rfl (fun w1 h1 => x_load rfl (ld_blks ((S7.step h1).blk 0 rfl) Try.isAgg24 Try.sizeOf24 rfl rfl))) ?_
  refine e_exact 2 _ (by kernel_rfl) rfl rfl (by kernel_rfl) rfl (ex_x rfl (fun w1 h1 => x_load rfl (ld_blks ((S7.step h1).blk 0 rfl) Try.isAgg94 Try.sizeOf94 rfl rfl))) ?_
  refine e_next [3] (by kernel_rfl) (by kernel_rfl) ⟨⟨_, _, rfl, rfl, ?_⟩, trivial⟩
  refine s_callf [] [] [_, _] rfl rfl Try.call123 rfl ((c_weigh N va arcs i _ hV hi _ (hA.le S7.le)).mono ?_)
  rintro v128 w8 ⟨hN128, hl128⟩
  have S9 := S7.add hl128 hN128
  refine ⟨.of_le hl128, ?_⟩
  refine e_next [4] (by kernel_rfl) (by kernel_rfl) ⟨⟨_, _, rfl, rfl, ?_⟩, trivial⟩
  refine s_callf [] [] [_, _] rfl rfl Try.call22 rfl ((c_Greatest N va arcs _ _ (by first | omega | (rw [unit_length]; omega) | (rw [List.length_map]; omega) | (rw [List.length_replicate]; omega)) _ (hA.le S9.le) (vec_rd (S9.at 1 rfl))).mono ?_)
  rintro _ w10 ⟨n1310, vx1310, x1310, vp1310, p1310, e1310, rfl, hO1310, hR1310⟩
  have S11 := S9.join hO1310
  refine ⟨.of_le hO1310.le, ?_⟩
  have hb1310 := hR1310.bd
  refine e_exact 5 _ (by kernel_rfl) rfl rfl (by kernel_rfl) rfl (ex_x rfl (fun w1 h1 => x_mv rfl)) ?_
  refine e_exact 6 _ (by kernel_rfl) rfl rfl (by kernel_rfl) rfl (ex_x rfl (fun w1 h1 => x_extract rfl rfl)) ?_
  refine e_exact 7 _ (by kernel_rfl) rfl rfl (by kernel_rfl) rfl (ex_x rfl (fun w1 h1 => x_extract rfl rfl)) ?_
  refine e_exact 8 _ (by kernel_rfl) rfl rfl (by kernel_rfl) rfl (ex_x rfl (fun w1 h1 => x_extract rfl rfl)) ?_
  refine e_exact 9 _ (by kernel_rfl) rfl rfl (by kernel_rfl) rfl (ex_x rfl (fun w1 h1 => x_extract rfl rfl)) ?_
  refine e_exact 10 _ (by kernel_rfl) rfl rfl (by kernel_rfl) rfl (ex_x rfl (fun w1 h1 => x_as rfl)) ?_
  refine e_exact 11 _ (by kernel_rfl) rfl rfl (by kernel_rfl) rfl (ex_x rfl (fun w1 h1 => x_as rfl)) ?_
  refine e_exact 12 _ (by kernel_rfl) rfl rfl (by kernel_rfl) rfl (ex_x rfl (fun w1 h1 => x_as rfl)) ?_
  refine e_exact 13 _ (by kernel_rfl) rfl rfl (by kernel_rfl) rfl (ex_x rfl (fun w1 h1 => x_as rfl)) ?_
  refine e_done (by kernel_rfl) ?_
  refine l_nil ?_
  refine r_seq ?_
  refine r_region ?_
  refine l_x rfl (x_mv rfl) ?_
  refine l_x rfl (x_neg rfl (by omega)) ?_
  refine l_x rfl (x_mv rfl) ?_
  refine l_x rfl (x_as rfl) ?_
  refine l_x rfl (x_as rfl) ?_
  refine l_nil ?_
  refine r_ret (rs := [.tmp 2, .tmp 3]) [_, _] Try.func75 rfl ⟨rfl, rfl, trivial⟩ ?_
  exact ⟨_, _, rfl, S11.le, hR1310.low hV hi⟩

/-- (couchant/flow.single).high. -/
theorem c_high (N : Int) (va : Value) (arcs : List Arc) (i : Nat) (hV : Valid N arcs) (hi : i < arcs.length) (w : World) (hA : Rd EA w va arcs) :
    Cl Try.prog 76 #[.agg #[.int .i64 N, va, .int .i64 (i : Int)]] w fun v w' => ∃ n e, v = .tuple #[.int .i64 n, .int .i64 e] ∧ Le w w' ∧ EndR N arcs i (1) n e := by
  have hLx := hV.len
  refine fn_of_run (args := [_]) 20 Try.func76 rfl rfl rfl fun cs => ?_
  have S := Own.start (X := nob) w
  refine r_seq ?_
  refine r_region ?_
  refine l_box S rfl rfl ?_
  intro b4 w1 S2 hl3
  refine l_x rfl (x_as rfl) ?_
  refine l_x rfl (x_as rfl) ?_
  refine l_nil ?_
  refine r_seq ?_
  refine r_drawE 14 nob Try.mixed (by kernel_rfl) ?_
  intro w5 hl6
  have S7 := S2.step hl6
  refine e_exact 0 _ (by kernel_rfl) rfl rfl (by kernel_rfl) rfl (ex_x rfl (fun w1 h1 => x_fieldAddr rfl Try.runUnderlying94 rfl Try.sizeOf24 (by decide))) ?_
  refine e_exact 1 _ (by kernel_rfl) rfl rfl (by kernel_rfl) rfl (ex_x rfl (fun w1 h1 => x_load rfl (ld_blks ((S7.step h1).blk 0 rfl) Try.isAgg24 Try.sizeOf24 rfl rfl))) ?_
  refine e_exact 2 _ (by kernel_rfl) rfl rfl (by kernel_rfl) rfl (ex_x rfl (fun w1 h1 => x_load rfl (ld_blks ((S7.step h1).blk 0 rfl) Try.isAgg94 Try.sizeOf94 rfl rfl))) ?_
  refine e_next [3] (by kernel_rfl) (by kernel_rfl) ⟨⟨_, _, rfl, rfl, ?_⟩, trivial⟩
  refine s_callf [] [] [_, _] rfl rfl Try.call123 rfl ((c_weigh N va arcs i _ hV hi _ (hA.le S7.le)).mono ?_)
  rintro v128 w8 ⟨hN128, hl128⟩
  have S9 := S7.add hl128 hN128
  refine ⟨.of_le hl128, ?_⟩
  refine e_next [4] (by kernel_rfl) (by kernel_rfl) ⟨⟨_, _, rfl, rfl, ?_⟩, trivial⟩
  refine s_callf [] [] [_, _] rfl rfl Try.call22 rfl ((c_Greatest N va arcs _ _ (by first | omega | (rw [unit_length]; omega) | (rw [List.length_map]; omega) | (rw [List.length_replicate]; omega)) _ (hA.le S9.le) (vec_rd (S9.at 1 rfl))).mono ?_)
  rintro _ w10 ⟨n1310, vx1310, x1310, vp1310, p1310, e1310, rfl, hO1310, hR1310⟩
  have S11 := S9.join hO1310
  refine ⟨.of_le hO1310.le, ?_⟩
  have hb1310 := hR1310.bd
  refine e_exact 5 _ (by kernel_rfl) rfl rfl (by kernel_rfl) rfl (ex_x rfl (fun w1 h1 => x_mv rfl)) ?_
  refine e_exact 6 _ (by kernel_rfl) rfl rfl (by kernel_rfl) rfl (ex_x rfl (fun w1 h1 => x_extract rfl rfl)) ?_
  refine e_exact 7 _ (by kernel_rfl) rfl rfl (by kernel_rfl) rfl (ex_x rfl (fun w1 h1 => x_extract rfl rfl)) ?_
  refine e_exact 8 _ (by kernel_rfl) rfl rfl (by kernel_rfl) rfl (ex_x rfl (fun w1 h1 => x_extract rfl rfl)) ?_
  refine e_exact 9 _ (by kernel_rfl) rfl rfl (by kernel_rfl) rfl (ex_x rfl (fun w1 h1 => x_extract rfl rfl)) ?_
  refine e_exact 10 _ (by kernel_rfl) rfl rfl (by kernel_rfl) rfl (ex_x rfl (fun w1 h1 => x_as rfl)) ?_
  refine e_exact 11 _ (by kernel_rfl) rfl rfl (by kernel_rfl) rfl (ex_x rfl (fun w1 h1 => x_as rfl)) ?_
  refine e_exact 12 _ (by kernel_rfl) rfl rfl (by kernel_rfl) rfl (ex_x rfl (fun w1 h1 => x_as rfl)) ?_
  refine e_exact 13 _ (by kernel_rfl) rfl rfl (by kernel_rfl) rfl (ex_x rfl (fun w1 h1 => x_as rfl)) ?_
  refine e_done (by kernel_rfl) ?_
  refine l_nil ?_
  refine r_seq ?_
  refine r_region ?_
  refine l_x rfl (x_mv rfl) ?_
  refine l_x rfl (x_mv rfl) ?_
  refine l_x rfl (x_as rfl) ?_
  refine l_x rfl (x_as rfl) ?_
  refine l_nil ?_
  refine r_ret (rs := [.tmp 2, .tmp 3]) [_, _] Try.func76 rfl ⟨rfl, rfl, trivial⟩ ?_
  exact ⟨_, _, rfl, S11.le, hR1310.high hV hi⟩

/-- couchant/flow.Range$1. -/
theorem c_Range1 (N : Int) (va : Value) (arcs : List Arc) (i : Int) (b0 b1 : Nat) (hV : Valid N arcs) (w : World) (h0 : Blk w b0 [.int .i64 i] 3) (h1 : Blk w b1 [.int .i64 N, va] 24) (hA : Rd EA w va arcs) :
    Cl Try.prog 74 #[.pointer (some ⟨b0, 0, none⟩), .pointer (some ⟨b1, 0, none⟩)] w fun v w' => v = .bool (inb arcs i) ∧ Le w w' := by
  have hLx := hV.len
  refine fn_of_run (args := [_, _]) 9 Try.func74 rfl rfl rfl fun cs => ?_
  have S := Own.start (X := nob) w
  refine r_seq ?_
  refine r_region ?_
  refine l_x rfl (x_as rfl) ?_
  refine l_nil ?_
  refine r_seq ?_
  refine r_region ?_
  refine l_x rfl (x_load rfl (ld_blk (h0.keep S.le id) Try.isAgg3 rfl)) ?_
  refine l_x rfl (x_fieldAddr rfl Try.runUnderlying24 rfl Try.sizeOf22 (by decide)) ?_
  refine l_x rfl (x_load rfl (ld_blk (h1.keep S.le id) Try.isAgg22 rfl)) ?_
  refine l_x rfl (x_len (hA.le S.le) rfl Try.runUnderlying22) ?_
  refine l_x rfl (x_sub rfl rfl (by omega)) ?_
  refine l_call [] [] [_, _, _] rfl rfl Try.call64 rfl (c_in _ _ _ _) ?_
  rintro _ w1 ⟨rfl, hl3⟩
  have S2 := S.step hl3
  refine l_x rfl (x_as rfl) ?_
  refine l_nil ?_
  refine r_ret (rs := [.tmp 2]) [_] Try.func74 rfl ⟨rfl, trivial⟩ ?_
  exact ⟨congrArg Value.bool (by simp only [inb]), S2.le⟩

theorem zcR : (#[.int .i64 0, .int .i64 0] : Array Value) = (tab 2 fun _ => 0).toArray := rfl

/-- couchant/flow.Range. -/
theorem c_Range (N : Int) (va : Value) (arcs : List Arc) (i : Int) (w : World) (hA : Rd EA w va arcs) :
    Cl Try.prog 23 #[.agg #[.int .i64 N, va], .int .i64 i] w fun v w' => ∃ lo hi e, v = .tuple #[.int .i64 lo, .int .i64 hi, .int .i64 e] ∧ Le w w' ∧ RaR N arcs i lo hi e := by
  refine fn_of_run (args := [_, _]) 47 Try.func23 rfl rfl rfl fun cs => ?_
  have S := Own.start (X := nob) w
  refine r_seq ?_
  refine r_region ?_
  refine l_box S rfl rfl ?_
  intro b4 w1 S2 hl3
  refine l_box S2 rfl rfl ?_
  intro b8 w5 S6 hl7
  refine l_x rfl (x_as rfl) ?_
  refine l_x rfl (x_as rfl) ?_
  refine l_x rfl (x_as rfl) ?_
  refine l_nil ?_
  refine r_seq ?_
  refine r_seq ?_
  refine r_region ?_
  refine l_x rfl (x_load rfl (ld_blks (S6.blk 0 rfl) Try.isAgg24 Try.sizeOf24 rfl rfl)) ?_
  refine l_x rfl (x_func rfl rfl) ?_
  refine l_call [] [] [_, _] rfl rfl Try.call62 rfl (c_asked N va arcs (inb arcs i) 74 [_, _] _ (hA.le S6.le) Try.call74 (fun hv w1 h1 => c_Range1 N va arcs i _ _ (chk_zero.1 hv) w1 ((S6.blk 1 rfl).keep h1 id) ((S6.blk 0 rfl).keep h1 id) (hA.le (S6.le.trans h1)))) ?_
  rintro _ w9 ⟨rfl, hl11⟩
  have S10 := S6.step hl11
  refine l_x rfl (x_as rfl) ?_
  refine l_nil ?_
  refine r_seq ?_
  refine r_region ?_
  refine l_x rfl (x_mv rfl) ?_
  refine l_x rfl (x_neq rfl rfl) ?_
  refine l_nil ?_
  refine r_ifd rfl (fun hc16 => ?_) (fun hc16 => ?_)
  · skip
    refine r_seq ?_
    refine r_region ?_
    refine l_x rfl (x_mv rfl) ?_
    refine l_x rfl (x_as rfl) ?_
    refine l_x rfl (x_as rfl) ?_
    refine l_x rfl (x_as rfl) ?_
    refine l_nil ?_
    refine r_ret (rs := [.tmp 4, .tmp 5, .tmp 6]) [_, _, _] Try.func23 rfl ⟨rfl, rfl, rfl, trivial⟩ ?_
    exact ⟨_, _, _, rfl, S10.le, .bad hc16⟩
  · skip
    have h0 := Decidable.not_not.1 hc16
    obtain ⟨hV, hi0, hi1⟩ := aski_zero.1 h0
    have hLx := hV.len
    refine r_skip ?_
    refine r_seq ?_
    refine r_region ?_
    refine l_x rfl (x_load rfl (ld_blks (S10.blk 0 rfl) Try.isAgg24 Try.sizeOf24 rfl rfl)) ?_
    refine l_x rfl (x_load rfl (ld_blk (S10.blk 1 rfl) Try.isAgg3 rfl)) ?_
    refine l_x rfl (x_buildS (out := [_, _, _]) (ss := [2, 1]) Try.zeroValue94 rfl Try.runUnderlying94 ⟨Try.sizeOf24, Try.sizeOf3, trivial⟩ (fill_cons rfl rfl rfl (Nat.le_of_ble_eq_true rfl) (fill_cons rfl rfl rfl (Nat.le_of_ble_eq_true rfl) fill_nil))) ?_
    refine l_alloc S10 rfl Try.zeroValue94 rfl ?_
    intro b15 w12 S13 hl14
    refine l_stores (vs := [_, _, _]) S13 2 rfl rfl rfl rfl (ones_cons rfl (ones_cons (Rd.one (hA.le S13.le)) (ones_cons rfl ones_nil))) Try.sizeOf94 (by first | exact Nat.le_refl _ | simp) (splice_all rfl) ?_
    intro w16 S17 hk18
    refine l_nil ?_
    refine r_seq ?_
    refine r_region ?_
    refine l_alloc S17 rfl Try.zeroValue95 zcR ?_
    intro b22 w19 S20 hl21
    refine l_nil ?_
    refine r_seq ?_
    refine r_seq ?_
    refine r_region ?_
    refine l_x rfl (x_load rfl (ld_blks (S20.blk 2 rfl) Try.isAgg94 Try.sizeOf94 rfl rfl)) ?_
    refine l_x rfl (x_func rfl rfl) ?_
    refine l_x rfl (x_load rfl (ld_blks (S20.blk 2 rfl) Try.isAgg94 Try.sizeOf94 rfl rfl)) ?_
    refine l_x rfl (x_func rfl rfl) ?_
    refine l_buildSlice (fnE 96 (.agg #[.int .i64 N, va, .int .i64 i])) [75, 76] S20 rfl Try.runUnderlying97 Try.sizeOf96 Try.zeroValue96 rfl ⟨rfl, rfl, rfl, rfl, trivial⟩ (Nat.le_of_ble_eq_true rfl) ?_
    intro v26 w23 S24 hl25
    refine l_x rfl (x_len (vec_rd (S24.at 4 rfl)) rfl Try.runUnderlying97) ?_
    refine l_x rfl (x_mv rfl) ?_
    refine l_nil ?_
    refine r_block ?_
    refine r_loop (G := Nat × (Nat → Int)) (fun ⟨j, f⟩ => 2 - j) (fun ⟨j, f⟩ => [(8, .pointer (some ⟨b15, 0, none⟩)), (9, .pointer (some ⟨b22, 0, none⟩)), (25, v26), (27, .int .i64 j), (26, .int .i64 2)]) (fun ⟨j, f⟩ w' => (j ≤ 2) ∧ (∀ q, q < j → EndR N arcs i.toNat (sgn q) (f q) 0) ∧ Own nob w w' [blk b4 [.int .i64 N, va] 24, blk b8 [.int .i64 i] 3, blk b15 [.int .i64 N, va, .int .i64 i] 94, blk b22 (tab 2 f) 95, vec (fnE 96 (.agg #[.int .i64 N, va, .int .i64 i])) v26 [75, 76]]) (0, fun _ => 0) ⟨rfl, rfl, rfl, rfl, rfl, trivial⟩ ⟨Nat.zero_le _, fun j h => absurd h (Nat.not_lt_zero j), S24⟩ ?_
    rintro ⟨j, f⟩ ρ w1a ⟨hj, hE, S1a⟩ IHa
    refine r_seq ?_
    refine r_region ?_
    refine l_x rfl (x_lss rfl rfl) ?_
    refine l_nil ?_
    refine r_seq ?_
    refine r_ifd rfl (fun hc28 => ?_) (fun hc28 => ?_)
    · skip
      have hj2 : j < 2 := by omega
      obtain ⟨k, hk⟩ : ∃ k, ([75, 76] : List Nat)[j]? = some k := ⟨_, List.getElem?_eq_getElem (by simpa using hj2)⟩
      have hk0 : (∀ args w, (callFunc k args).run Try.prog w = .ok (.enter k args) w) ∧ ∀ w1, Le w w1 → Cl Try.prog k #[.agg #[.int .i64 N, va, .int .i64 i]] w1 fun v w2 => ∃ n e, v = .tuple #[.int .i64 n, .int .i64 e] ∧ Le w1 w2 ∧ EndR N arcs i.toNat (sgn j) n e := by
        have hi0 : ((i.toNat : Nat) : Int) = i := by omega
        rcases Nat.eq_zero_or_pos j with h | h
        · subst h
          simp at hk
          subst hk
          refine ⟨Try.call75, fun w1 h1 => ?_⟩
          have := c_low N va arcs i.toNat hV (by omega) w1 (hA.le h1)
          rw [hi0] at this; exact this
        · have h1 : j = 1 := by omega
          subst h1
          simp at hk
          subst hk
          refine ⟨Try.call76, fun w1 h1 => ?_⟩
          have := c_high N va arcs i.toNat hV (by omega) w1 (hA.le h1)
          rw [hi0] at this; exact this
      refine r_skip ?_
      refine r_seq ?_
      refine r_block ?_
      refine r_seq ?_
      refine r_region ?_
      refine l_x rfl (x_mv rfl) ?_
      refine l_index (fnE 96 (.agg #[.int .i64 N, va, .int .i64 i])) rfl (vec_rd (S1a.at 4 rfl)) rfl rfl Try.runUnderlying97 Try.sizeOf96 (by omega) hk ?_
      intro b27 o28 hat29 row30
      refine l_x rfl (x_load rfl (ld_cell Try.isAgg96 (row30 0 _ rfl))) ?_
      refine l_x rfl (x_as rfl) ?_
      refine l_x rfl (x_as rfl) ?_
      refine l_nil ?_
      refine r_seq ?_
      refine r_region ?_
      refine l_x rfl (x_mv rfl) ?_
      refine l_x rfl (x_mv rfl) ?_
      refine l_call [_] [] [_] rfl rfl hk0.1 rfl (hk0.2 _ S1a.le) ?_
      rintro _ w31 ⟨n0, e0, rfl, hl0, hE0⟩
      have S32 := S1a.step hl0
      refine l_x rfl (x_mv rfl) ?_
      refine l_x rfl (x_extract rfl rfl) ?_
      refine l_x rfl (x_extract rfl rfl) ?_
      refine l_x rfl (x_indexAddr_array rfl rfl Try.runUnderlying95 Try.sizeOf3 (by omega)) ?_
      refine l_storeq S32 3 rfl rfl rfl rfl rfl Try.sizeOf3 (tabs_lt rfl (by omega)) (tabs_set rfl (by omega)) ?_
      intro w33 S34 hk35
      refine l_x rfl (x_as rfl) ?_
      refine l_nil ?_
      refine r_seq ?_
      refine r_region ?_
      refine l_x rfl (x_mv rfl) ?_
      refine l_x rfl (x_neq rfl rfl) ?_
      refine l_nil ?_
      refine r_ifd rfl (fun hc40 => ?_) (fun hc40 => ?_)
      · skip
        refine r_seq ?_
        refine r_region ?_
        refine l_x rfl (x_mv rfl) ?_
        refine l_x rfl (x_as rfl) ?_
        refine l_x rfl (x_as rfl) ?_
        refine l_x rfl (x_as rfl) ?_
        refine l_nil ?_
        refine r_ret (rs := [.tmp 4, .tmp 5, .tmp 6]) [_, _, _] Try.func23 rfl ⟨rfl, rfl, rfl, trivial⟩ ?_
        obtain ⟨he60, hno⟩ := hE0.cut hc40
        exact ⟨_, _, _, rfl, S34.le, by rw [he60]; exact .no h0 hno⟩
      · skip
        refine r_skip ?_
        refine r_inBlock ?_
        refine r_region ?_
        refine l_x rfl (x_add rfl rfl (by omega)) ?_
        refine l_x rfl (x_mv rfl) ?_
        refine l_nil ?_
        exact IHa (j + 1, upf f j n0) _ _ (by dsimp only; omega) ⟨rfl, rfl, rfl, rfl, rfl, trivial⟩ ⟨by omega, Ends.more hE hE0 (Decidable.not_not.1 hc40), S34⟩
    · skip
      have hj2 : j = 2 := by omega
      subst hj2
      refine r_exit rfl ?_
      refine r_seq ?_
      refine r_drawR 7 Try.mixed (by kernel_rfl) ?_
      refine w_x rfl (fun w1 h1 => x_indexAddr_array rfl rfl Try.runUnderlying95 Try.sizeOf3 (by omega)) ?_
      refine w_x rfl (fun w1 h1 => x_load rfl (ld_blk ((S1a.step h1).blk 3 rfl) Try.isAgg3 (tabs_get rfl (by omega)))) ?_
      refine w_x rfl (fun w1 h1 => x_indexAddr_array rfl rfl Try.runUnderlying95 Try.sizeOf3 (by omega)) ?_
      refine w_x rfl (fun w1 h1 => x_load rfl (ld_blk ((S1a.step h1).blk 3 rfl) Try.isAgg3 (tabs_get rfl (by omega)))) ?_
      refine w_x rfl (fun w1 h1 => x_as rfl) ?_
      refine w_x rfl (fun w1 h1 => x_as rfl) ?_
      refine w_x rfl (fun w1 h1 => x_as rfl) ?_
      refine w_nil ?_
      intro w36 hl37
      have S38 := S1a.step hl37
      refine l_nil ?_
      refine r_ret (rs := [.tmp 4, .tmp 5, .tmp 6]) [_, _, _] Try.func23 rfl ⟨rfl, rfl, rfl, trivial⟩ ?_
      exact ⟨_, _, _, rfl, S38.le, Ends.done h0 hE⟩

end Go.Proofs

/-
  Contracts of functions of the program: each by symbolic execution of its text.
-/
namespace Go.Proofs
open Go Go.Vk Go.Vk.Flow

/-- couchant/flow.copied[couchant/api.Arc]. -/
theorem c_copiedA (vl : Value) (l : List Arc) (hm : l.length ≤ 100000) (w : World) (Hl : Rd EA w vl l) :
    Cl Try.prog 65 #[vl] w fun v w' => New w w' (vec EA v l) ∧ Le w w' := by
  refine fn_of_run (args := [_]) 6 Try.func65 rfl rfl rfl fun cs => ?_
  have S := Own.start (X := nob) w
  refine r_seq ?_
  refine r_region ?_
  refine l_x rfl (x_as rfl) ?_
  refine l_nil ?_
  refine r_seq ?_
  refine r_region ?_
  refine l_buildSlice EA [] S rfl Try.runUnderlying22 Try.sizeOf39 Try.zeroValue39 rfl trivial (Nat.le_of_ble_eq_true rfl) ?_
  intro v4 w1 S2 hl3
  refine l_x rfl (x_mv rfl) ?_
  refine l_append EA S2 0 rfl rfl rfl rfl (Hl.le S2.le) Try.underlying22 info39 rfl rfl rfl (by unfold maxLen; rw [List.length_nil]; omega) (by show _ * 48 ≤ _; rw [List.length_nil]; omega) ?_
  intro v8 w5 S6 hk7 hv9
  refine l_x rfl (x_as rfl) ?_
  refine l_nil ?_
  refine r_ret (rs := [.tmp 2]) [_] Try.func65 rfl ⟨rfl, trivial⟩ ?_
  exact ⟨by have hS := S6; rw [List.nil_append] at hS; exact hS.new 0 rfl, S6.le⟩

/-- couchant/flow.copied[int]. -/
theorem c_copiedI (vl : Value) (l : List Int) (hm : l.length ≤ 100000) (w : World) (Hl : Rd EI w vl l) :
    Cl Try.prog 115 #[vl] w fun v w' => New w w' (vec EI v l) ∧ Le w w' := by
  refine fn_of_run (args := [_]) 6 Try.func115 rfl rfl rfl fun cs => ?_
  have S := Own.start (X := nob) w
  refine r_seq ?_
  refine r_region ?_
  refine l_x rfl (x_as rfl) ?_
  refine l_nil ?_
  refine r_seq ?_
  refine r_region ?_
  refine l_buildSlice EI [] S rfl Try.runUnderlying25 Try.sizeOf3 Try.zeroValue3 rfl trivial (Nat.le_of_ble_eq_true rfl) ?_
  intro v4 w1 S2 hl3
  refine l_x rfl (x_mv rfl) ?_
  refine l_append EI S2 0 rfl rfl rfl rfl (Hl.le S2.le) Try.underlying25 info3 rfl rfl rfl (by unfold maxLen; rw [List.length_nil]; omega) (by show _ * 8 ≤ _; rw [List.length_nil]; omega) ?_
  intro v8 w5 S6 hk7 hv9
  refine l_x rfl (x_as rfl) ?_
  refine l_nil ?_
  refine r_ret (rs := [.tmp 2]) [_] Try.func115 rfl ⟨rfl, trivial⟩ ?_
  exact ⟨by have hS := S6; rw [List.nil_append] at hS; exact hS.new 0 rfl, S6.le⟩

/-- couchant/flow.Narrow$1. -/
theorem c_Narrow1 (N : Int) (va : Value) (arcs : List Arc) (i : Int) (lo : Int) (hi : Int) (r : Int) (b0 b1 b2 b3 b4 : Nat) (hV : Valid N arcs) (w : World) (h0 : Blk w b0 [.int .i64 i] 3) (h1 : Blk w b1 [.int .i64 N, va] 24) (h2 : Blk w b2 [.int .i64 lo] 3) (h3 : Blk w b3 [.int .i64 hi] 3) (h4 : Blk w b4 [.int .i64 r] 3) (hA : Rd EA w va arcs) :
    Cl Try.prog 63 #[.pointer (some ⟨b0, 0, none⟩), .pointer (some ⟨b1, 0, none⟩), .pointer (some ⟨b2, 0, none⟩), .pointer (some ⟨b3, 0, none⟩), .pointer (some ⟨b4, 0, none⟩)] w fun v w' => v = .bool (inb arcs i && rg lo 1000000 && rg hi 1000000 && rg r 1000000) ∧ Le w w' := by
  have hLx := hV.len
  refine fn_of_run (args := [_, _, _, _, _]) 24 Try.func63 rfl rfl rfl fun cs => ?_
  have S := Own.start (X := nob) w
  refine r_seq ?_
  refine r_region ?_
  refine l_x rfl (x_as rfl) ?_
  refine l_nil ?_
  refine r_seq ?_
  refine r_region ?_
  refine l_x rfl (x_load rfl (ld_blk (h0.keep S.le id) Try.isAgg3 rfl)) ?_
  refine l_x rfl (x_fieldAddr rfl Try.runUnderlying24 rfl Try.sizeOf22 (by decide)) ?_
  refine l_x rfl (x_load rfl (ld_blk (h1.keep S.le id) Try.isAgg22 rfl)) ?_
  refine l_x rfl (x_len (hA.le S.le) rfl Try.runUnderlying22) ?_
  refine l_x rfl (x_sub rfl rfl (by omega)) ?_
  refine l_call [] [] [_, _, _] rfl rfl Try.call64 rfl (c_in _ _ _ _) ?_
  rintro _ w1 ⟨rfl, hl3⟩
  have S2 := S.step hl3
  refine l_x rfl (x_mv rfl) ?_
  refine l_splitd (d := 12) rfl (fun hg12 => ?_) (fun hg12 => ?_)
  · skip
    refine l_x rfl (x_load rfl (ld_blk (h2.keep S2.le id) Try.isAgg3 rfl)) ?_
    refine l_call [] [] [_, _, _] rfl rfl Try.call64 rfl (c_in _ _ _ _) ?_
    rintro _ w4 ⟨rfl, hl6⟩
    have S5 := S2.step hl6
    refine l_x rfl (x_pick_t rfl rfl) ?_
    refine l_x rfl (x_mv rfl) ?_
    refine l_splitd (d := 16) rfl (fun hg16 => ?_) (fun hg16 => ?_)
    · skip
      refine l_x rfl (x_load rfl (ld_blk (h3.keep S5.le id) Try.isAgg3 rfl)) ?_
      refine l_call [] [] [_, _, _] rfl rfl Try.call64 rfl (c_in _ _ _ _) ?_
      rintro _ w7 ⟨rfl, hl9⟩
      have S8 := S5.step hl9
      refine l_x rfl (x_pick_t rfl rfl) ?_
      refine l_x rfl (x_mv rfl) ?_
      refine l_splitd (d := 20) rfl (fun hg20 => ?_) (fun hg20 => ?_)
      · skip
        refine l_x rfl (x_load rfl (ld_blk (h4.keep S8.le id) Try.isAgg3 rfl)) ?_
        refine l_call [] [] [_, _, _] rfl rfl Try.call64 rfl (c_in _ _ _ _) ?_
        rintro _ w10 ⟨rfl, hl12⟩
        have S11 := S8.step hl12
        refine l_x rfl (x_pick_t rfl rfl) ?_
        refine l_x rfl (x_as rfl) ?_
        refine l_nil ?_
        refine r_ret (rs := [.tmp 5]) [_] Try.func63 rfl ⟨rfl, trivial⟩ ?_
        exact ⟨congrArg Value.bool (Bool.eq_iff_iff.2 (by simp [inb, rg]; try omega)), S11.le⟩
      · skip
        refine l_pass rfl ?_
        refine l_pass rfl ?_
        refine l_x rfl (x_pick_f rfl rfl) ?_
        refine l_x rfl (x_as rfl) ?_
        refine l_nil ?_
        refine r_ret (rs := [.tmp 5]) [_] Try.func63 rfl ⟨rfl, trivial⟩ ?_
        exact ⟨congrArg Value.bool (Bool.eq_iff_iff.2 (by simp [inb, rg]; try omega)), S8.le⟩
    · skip
      refine l_pass rfl ?_
      refine l_pass rfl ?_
      refine l_x rfl (x_pick_f rfl rfl) ?_
      refine l_x rfl (x_mv rfl) ?_
      refine l_pass rfl ?_
      refine l_pass rfl ?_
      refine l_x rfl (x_pick_f rfl rfl) ?_
      refine l_x rfl (x_as rfl) ?_
      refine l_nil ?_
      refine r_ret (rs := [.tmp 5]) [_] Try.func63 rfl ⟨rfl, trivial⟩ ?_
      exact ⟨congrArg Value.bool (Bool.eq_iff_iff.2 (by simp [inb, rg]; try omega)), S5.le⟩
  · skip
    refine l_pass rfl ?_
    refine l_pass rfl ?_
    refine l_x rfl (x_pick_f rfl rfl) ?_
    refine l_x rfl (x_mv rfl) ?_
    refine l_pass rfl ?_
    refine l_pass rfl ?_
    refine l_x rfl (x_pick_f rfl rfl) ?_
    refine l_x rfl (x_mv rfl) ?_
    refine l_pass rfl ?_
    refine l_pass rfl ?_
    refine l_x rfl (x_pick_f rfl rfl) ?_
    refine l_x rfl (x_as rfl) ?_
    refine l_nil ?_
    refine r_ret (rs := [.tmp 5]) [_] Try.func63 rfl ⟨rfl, trivial⟩ ?_
    exact ⟨congrArg Value.bool (Bool.eq_iff_iff.2 (by simp [inb, rg]; try omega)), S2.le⟩

set_option maxHeartbeats 4000000 in
/-- couchant/flow.Narrow. -/
theorem c_Narrow (N : Int) (va : Value) (arcs : List Arc) (i lo hi r : Int) (w : World) (hA : Rd EA w va arcs) :
    Cl Try.prog 20 #[.agg #[.int .i64 N, va], .int .i64 i, .int .i64 lo, .int .i64 hi, .int .i64 r] w fun v w' => ∃ vh, v = .tuple #[.agg #[.int .i64 (if narE N arcs i lo hi r = 0 then N else 0), vh], .int .i64 (narE N arcs i lo hi r)] ∧ New w w' (vec EA vh (if narE N arcs i lo hi r = 0 then nar arcs i.toNat lo hi r else [])) ∧ Le w w' := by
  refine fn_of_run (args := [_, _, _, _, _]) 61 Try.func20 rfl rfl rfl fun cs => ?_
  have S := Own.start (X := nob) w
  refine r_seq ?_
  refine r_region ?_
  refine l_box S rfl rfl ?_
  intro b4 w1 S2 hl3
  refine l_box S2 rfl rfl ?_
  intro b8 w5 S6 hl7
  refine l_box S6 rfl rfl ?_
  intro b12 w9 S10 hl11
  refine l_box S10 rfl rfl ?_
  intro b16 w13 S14 hl15
  refine l_box S14 rfl rfl ?_
  intro b20 w17 S18 hl19
  refine l_alloc S18 rfl Try.zeroValue24 rfl ?_
  intro b24 w21 S22 hl23
  refine l_x rfl (x_as rfl) ?_
  refine l_nil ?_
  refine r_seq ?_
  refine r_seq ?_
  refine r_region ?_
  refine l_x rfl (x_load rfl (ld_blks (S22.blk 0 rfl) Try.isAgg24 Try.sizeOf24 rfl rfl)) ?_
  refine l_x rfl (x_func rfl rfl) ?_
  refine l_call [] [] [_, _] rfl rfl Try.call62 rfl (c_asked N va arcs (inb arcs i && rg lo 1000000 && rg hi 1000000 && rg r 1000000) 63 [_, _, _, _, _] _ (hA.le S22.le) Try.call63 (fun hv w1 h1 => c_Narrow1 N va arcs i lo hi r _ _ _ _ _ (chk_zero.1 hv) w1 ((S22.blk 1 rfl).keep h1 id) ((S22.blk 0 rfl).keep h1 id) ((S22.blk 2 rfl).keep h1 id) ((S22.blk 3 rfl).keep h1 id) ((S22.blk 4 rfl).keep h1 id) (hA.le (S22.le.trans h1)))) ?_
  rintro _ w25 ⟨rfl, hl27⟩
  have S26 := S22.step hl27
  refine l_x rfl (x_as rfl) ?_
  refine l_nil ?_
  refine r_seq ?_
  refine r_region ?_
  refine l_x rfl (x_mv rfl) ?_
  refine l_x rfl (x_neq rfl rfl) ?_
  refine l_nil ?_
  refine r_ifd rfl (fun hc19 => ?_) (fun hc19 => ?_)
  · skip
    change ¬ narE N arcs i lo hi r = 0 at hc19
    refine r_seq ?_
    refine r_region ?_
    refine l_x rfl (x_buildS (out := [_, _]) (ss := [1, 1]) Try.zeroValue24 rfl Try.runUnderlying24 ⟨Try.sizeOf3, Try.sizeOf22, trivial⟩ fill_nil) ?_
    refine l_x rfl (x_mv rfl) ?_
    refine l_stores (vs := [_, _]) S26 5 rfl rfl rfl rfl (ones_cons rfl (ones_cons rfl ones_nil)) Try.sizeOf24 (by first | exact Nat.le_refl _ | simp) (splice_all rfl) ?_
    intro w28 S29 hk30
    refine l_x rfl (x_as rfl) ?_
    refine l_nil ?_
    refine r_ret (rs := [.cell 10 24, .tmp 11]) [_, _] Try.func20 rfl ⟨⟨_, rfl, (ld_blks (S29.blk 5 rfl) Try.isAgg24 Try.sizeOf24 rfl rfl)⟩, rfl, trivial⟩ ?_
    exact ⟨.slice none 0 0, by rw [if_neg hc19]; rfl, by rw [if_neg hc19]; exact New.nilvec .., S29.le⟩
  · skip
    have h0 : narE N arcs i lo hi r = 0 := Decidable.not_not.1 hc19
    obtain ⟨hV, hi0, hl0, hh0, hr0⟩ := narE_zero.1 h0
    have hLx := hV.len
    obtain ⟨a, ha0⟩ : ∃ a, arcs[i.toNat]? = some a := ⟨_, List.getElem?_eq_getElem (by omega)⟩
    have hcur := ha0
    refine r_skip ?_
    refine r_seq ?_
    refine r_drawE 7 nob Try.mixed (by kernel_rfl) ?_
    intro w31 hl32
    have S33 := S26.step hl32
    refine e_exact 0 _ (by kernel_rfl) rfl rfl (by kernel_rfl) rfl (ex_x rfl (fun w1 h1 => x_fieldAddr rfl Try.runUnderlying24 rfl Try.sizeOf3 (by decide))) ?_
    refine e_exact 1 _ (by kernel_rfl) rfl rfl (by kernel_rfl) rfl (ex_x rfl (fun w1 h1 => x_load rfl (ld_blk ((S33.step h1).blk 0 rfl) Try.isAgg3 rfl))) ?_
    refine e_exact 2 _ (by kernel_rfl) rfl rfl (by kernel_rfl) rfl (ex_x rfl (fun w1 h1 => x_fieldAddr rfl Try.runUnderlying24 rfl Try.sizeOf22 (by decide))) ?_
    refine e_exact 3 _ (by kernel_rfl) rfl rfl (by kernel_rfl) rfl (ex_x rfl (fun w1 h1 => x_load rfl (ld_blk ((S33.step h1).blk 0 rfl) Try.isAgg22 rfl))) ?_
    refine e_next [4, 6] (by kernel_rfl) (by kernel_rfl) ⟨⟨_, _, rfl, rfl, ?_⟩, ⟨_, _, rfl, rfl, ?_⟩, trivial⟩
    · skip
      refine s_callf [] [] [_] rfl rfl Try.call65 rfl ((c_copiedA _ _ (by omega) _ (hA.le S33.le)).mono ?_)
      rintro v2634 w34 ⟨hN2634, hl2634⟩
      have S35 := S33.add hl2634 hN2634
      refine ⟨.of_le hl2634, ?_⟩
      refine e_exact 5 _ (by kernel_rfl) rfl rfl (by kernel_rfl) rfl (ex_x rfl (fun w1 h1 => x_buildS (out := [_, _]) (ss := [1, 1]) Try.zeroValue24 rfl Try.runUnderlying24 ⟨Try.sizeOf3, Try.sizeOf22, trivial⟩ (fill_cons rfl rfl rfl (Nat.le_of_ble_eq_true rfl) (fill_cons rfl (Rd.cells (vec_rd (S35.at 6 rfl))) rfl (Nat.le_of_ble_eq_true rfl) fill_nil)))) ?_
      refine e_next [6] (by kernel_rfl) (by kernel_rfl) ⟨⟨_, _, rfl, rfl, ?_⟩, trivial⟩
      refine s_alloc S35 rfl Try.zeroValue24 rfl ?_
      intro b39 w36 S37 hl38
      refine ⟨.of_le hl38, ?_⟩
      refine e_done (by kernel_rfl) ?_
      refine l_stores (vs := [_, _]) S37 7 rfl rfl rfl rfl (ones_cons rfl (ones_cons (Rd.one (vec_rd (S37.at 6 rfl))) ones_nil)) Try.sizeOf24 (by first | exact Nat.le_refl _ | simp) (splice_all rfl) ?_
      intro w40 S41 hk42
      refine l_nil ?_
      refine r_seq ?_
      refine r_region ?_
      refine l_x rfl (x_fieldAddr rfl Try.runUnderlying24 rfl Try.sizeOf22 (by decide)) ?_
      refine l_x rfl (x_load rfl (ld_blk (S41.blk 7 rfl) Try.isAgg22 rfl)) ?_
      refine l_x rfl (x_load rfl (ld_blk (S41.blk 1 rfl) Try.isAgg3 rfl)) ?_
      refine l_index EA rfl (vec_rd (S41.at 6 rfl)) rfl rfl Try.runUnderlying22 Try.sizeOf39 (by omega) hcur ?_
      intro b43 o44 hat45 row46
      refine l_x rfl (x_as rfl) ?_
      refine l_nil ?_
      refine r_seq ?_
      refine r_seq ?_
      refine r_drawR 6 Try.mixed (by kernel_rfl) ?_
      refine w_x rfl (fun w1 h1 => x_load rfl (ld_blk ((S41.step h1).blk 2 rfl) Try.isAgg3 rfl)) ?_
      refine w_x rfl (fun w1 h1 => x_mv rfl) ?_
      refine w_x rfl (fun w1 h1 => x_nilCheck rfl) ?_
      refine w_x rfl (fun w1 h1 => x_fieldAddr rfl Try.runUnderlying39 rfl Try.sizeOf3 (by decide)) ?_
      refine w_x rfl (fun w1 h1 => x_load rfl (ld_cell Try.isAgg3 ((rd_row (vec_rd ((S41.step h1).at 6 rfl)) hat45 hcur) 2 _ rfl))) ?_
      refine w_x rfl (fun w1 h1 => x_gtr rfl rfl) ?_
      refine w_nil ?_
      intro w47 hl48
      have S49 := S41.step hl48
      refine l_nil ?_
      refine r_ifd rfl (fun hc37 => ?_) (fun hc37 => ?_)
      · skip
        have hcur1 : (arcs.set i.toNat (⟨a.src, a.dst, lo, a.hi, a.loBy, a.hiBy⟩ : Arc))[i.toNat]? = some ⟨a.src, a.dst, lo, a.hi, a.loBy, a.hiBy⟩ := set_get hcur
        have hcur2 : ((arcs.set i.toNat (⟨a.src, a.dst, lo, a.hi, a.loBy, a.hiBy⟩ : Arc)).set i.toNat (⟨a.src, a.dst, lo, a.hi, r, a.hiBy⟩ : Arc))[i.toNat]? = some ⟨a.src, a.dst, lo, a.hi, r, a.hiBy⟩ := set_get hcur1
        refine r_drawE 7 (Rsc.fp (vec EA v2634 arcs)) Try.mixed (by kernel_rfl) ?_
        intro w50 hl51
        have S52 := S49.step hl51
        refine e_exact 0 _ (by kernel_rfl) rfl rfl (by kernel_rfl) rfl (ex_x rfl (fun w1 h1 => x_mv rfl)) ?_
        refine e_exact 1 _ (by kernel_rfl) rfl rfl (by kernel_rfl) rfl (ex_x rfl (fun w1 h1 => x_mv rfl)) ?_
        refine e_exact 2 _ (by kernel_rfl) rfl rfl (by kernel_rfl) rfl (ex_x rfl (fun w1 h1 => x_load rfl (ld_blk ((S52.under 6 rfl h1).blk 2 rfl) Try.isAgg3 rfl))) ?_
        refine e_exact 3 _ (by kernel_rfl) rfl rfl (by kernel_rfl) rfl (ex_x rfl (fun w1 h1 => x_load rfl (ld_blk ((S52.under 6 rfl h1).blk 4 rfl) Try.isAgg3 rfl))) ?_
        refine e_exact 4 _ (by kernel_rfl) rfl rfl (by kernel_rfl) rfl (ex_x rfl (fun w1 h1 => x_nilCheck rfl)) ?_
        refine e_exact 5 _ (by kernel_rfl) rfl rfl (by kernel_rfl) rfl (ex_x rfl (fun w1 h1 => x_fieldAddr rfl Try.runUnderlying39 rfl Try.sizeOf3 (by decide))) ?_
        refine e_next [6] (by kernel_rfl) (by kernel_rfl) ⟨⟨_, _, rfl, rfl, ?_⟩, trivial⟩
        refine s_storevi (a' := ⟨a.src, a.dst, lo, a.hi, a.loBy, a.hiBy⟩) (f := 2) S52 6 rfl rfl hat45 rfl rfl Try.sizeOf3 hcur (by decide) rfl ?_
        intro w53 S54 hk55
        refine ⟨hk55, ?_⟩
        refine e_done (by kernel_rfl) ?_
        refine l_x rfl (x_nilCheck rfl) ?_
        refine l_x rfl (x_fieldAddr rfl Try.runUnderlying39 rfl Try.sizeOf3 (by decide)) ?_
        refine l_storevi (a' := ⟨a.src, a.dst, lo, a.hi, r, a.hiBy⟩) (f := 4) S54 6 rfl rfl hat45 rfl rfl Try.sizeOf3 hcur1 (by decide) rfl ?_
        intro w56 S57 hk58
        refine l_nil ?_
        refine r_seq ?_
        refine r_seq ?_
        have hcur := hcur2
        refine r_drawR 6 Try.mixed (by kernel_rfl) ?_
        refine w_x rfl (fun w1 h1 => x_load rfl (ld_blk ((S57.step h1).blk 3 rfl) Try.isAgg3 rfl)) ?_
        refine w_x rfl (fun w1 h1 => x_mv rfl) ?_
        refine w_x rfl (fun w1 h1 => x_nilCheck rfl) ?_
        refine w_x rfl (fun w1 h1 => x_fieldAddr rfl Try.runUnderlying39 rfl Try.sizeOf3 (by decide)) ?_
        refine w_x rfl (fun w1 h1 => x_load rfl (ld_cell Try.isAgg3 ((rd_row (vec_rd ((S57.step h1).at 6 rfl)) hat45 hcur) 3 _ rfl))) ?_
        refine w_x rfl (fun w1 h1 => x_lss rfl rfl) ?_
        refine w_nil ?_
        intro w59 hl60
        have S61 := S57.step hl60
        refine l_nil ?_
        refine r_ifd rfl (fun hc51 => ?_) (fun hc51 => ?_)
        · skip
          have hcur3 : (((arcs.set i.toNat (⟨a.src, a.dst, lo, a.hi, a.loBy, a.hiBy⟩ : Arc)).set i.toNat (⟨a.src, a.dst, lo, a.hi, r, a.hiBy⟩ : Arc)).set i.toNat (⟨a.src, a.dst, lo, hi, r, a.hiBy⟩ : Arc))[i.toNat]? = some ⟨a.src, a.dst, lo, hi, r, a.hiBy⟩ := set_get hcur
          refine r_drawE 7 (Rsc.fp (vec EA v2634 ((arcs.set i.toNat (⟨a.src, a.dst, lo, a.hi, a.loBy, a.hiBy⟩ : Arc)).set i.toNat (⟨a.src, a.dst, lo, a.hi, r, a.hiBy⟩ : Arc)))) Try.mixed (by kernel_rfl) ?_
          intro w62 hl63
          have S64 := S61.step hl63
          refine e_exact 0 _ (by kernel_rfl) rfl rfl (by kernel_rfl) rfl (ex_x rfl (fun w1 h1 => x_mv rfl)) ?_
          refine e_exact 1 _ (by kernel_rfl) rfl rfl (by kernel_rfl) rfl (ex_x rfl (fun w1 h1 => x_mv rfl)) ?_
          refine e_exact 2 _ (by kernel_rfl) rfl rfl (by kernel_rfl) rfl (ex_x rfl (fun w1 h1 => x_load rfl (ld_blk ((S64.under 6 rfl h1).blk 3 rfl) Try.isAgg3 rfl))) ?_
          refine e_exact 3 _ (by kernel_rfl) rfl rfl (by kernel_rfl) rfl (ex_x rfl (fun w1 h1 => x_load rfl (ld_blk ((S64.under 6 rfl h1).blk 4 rfl) Try.isAgg3 rfl))) ?_
          refine e_exact 4 _ (by kernel_rfl) rfl rfl (by kernel_rfl) rfl (ex_x rfl (fun w1 h1 => x_nilCheck rfl)) ?_
          refine e_exact 5 _ (by kernel_rfl) rfl rfl (by kernel_rfl) rfl (ex_x rfl (fun w1 h1 => x_fieldAddr rfl Try.runUnderlying39 rfl Try.sizeOf3 (by decide))) ?_
          refine e_next [6] (by kernel_rfl) (by kernel_rfl) ⟨⟨_, _, rfl, rfl, ?_⟩, trivial⟩
          refine s_storevi (a' := ⟨a.src, a.dst, lo, hi, r, a.hiBy⟩) (f := 3) S64 6 rfl rfl hat45 rfl rfl Try.sizeOf3 hcur (by decide) rfl ?_
          intro w65 S66 hk67
          refine ⟨hk67, ?_⟩
          refine e_done (by kernel_rfl) ?_
          refine l_x rfl (x_nilCheck rfl) ?_
          refine l_x rfl (x_fieldAddr rfl Try.runUnderlying39 rfl Try.sizeOf3 (by decide)) ?_
          refine l_storevi (a' := ⟨a.src, a.dst, lo, hi, r, r⟩) (f := 5) S66 6 rfl rfl hat45 rfl rfl Try.sizeOf3 hcur3 (by decide) rfl ?_
          intro w68 S69 hk70
          refine l_nil ?_
          refine r_seq ?_
          refine r_region ?_
          refine l_x rfl (x_load rfl (ld_blks (S69.blk 7 rfl) Try.isAgg24 Try.sizeOf24 rfl rfl)) ?_
          refine l_stores (vs := [_, _]) S69 5 rfl rfl rfl rfl (ones_cons rfl (ones_cons (Rd.one (vec_rd (S69.at 6 rfl))) ones_nil)) Try.sizeOf24 (by first | exact Nat.le_refl _ | simp) (splice_all rfl) ?_
          intro w71 S72 hk73
          refine l_x rfl (x_as rfl) ?_
          refine l_nil ?_
          refine r_ret (rs := [.cell 10 24, .tmp 11]) [_, _] Try.func20 rfl ⟨⟨_, rfl, (ld_blks (S72.blk 5 rfl) Try.isAgg24 Try.sizeOf24 rfl rfl)⟩, rfl, trivial⟩ ?_
          exact ⟨v2634, by rw [if_pos h0, h0]; rfl, by rw [if_pos h0]; have hS := S72; rw [nar11 ha0 (by omega) (by omega)] at hS; exact hS.new 6 rfl, S72.le⟩
        · skip
          refine r_skip ?_
          refine r_seq ?_
          refine r_region ?_
          refine l_x rfl (x_load rfl (ld_blks (S61.blk 7 rfl) Try.isAgg24 Try.sizeOf24 rfl rfl)) ?_
          refine l_stores (vs := [_, _]) S61 5 rfl rfl rfl rfl (ones_cons rfl (ones_cons (Rd.one (vec_rd (S61.at 6 rfl))) ones_nil)) Try.sizeOf24 (by first | exact Nat.le_refl _ | simp) (splice_all rfl) ?_
          intro w74 S75 hk76
          refine l_x rfl (x_as rfl) ?_
          refine l_nil ?_
          refine r_ret (rs := [.cell 10 24, .tmp 11]) [_, _] Try.func20 rfl ⟨⟨_, rfl, (ld_blks (S75.blk 5 rfl) Try.isAgg24 Try.sizeOf24 rfl rfl)⟩, rfl, trivial⟩ ?_
          exact ⟨v2634, by rw [if_pos h0, h0]; rfl, by rw [if_pos h0]; have hS := S75; rw [nar10 ha0 (by omega) (by omega)] at hS; exact hS.new 6 rfl, S75.le⟩
      · skip
        refine r_skip ?_
        refine r_seq ?_
        refine r_seq ?_
        
        refine r_drawR 6 Try.mixed (by kernel_rfl) ?_
        refine w_x rfl (fun w1 h1 => x_load rfl (ld_blk ((S49.step h1).blk 3 rfl) Try.isAgg3 rfl)) ?_
        refine w_x rfl (fun w1 h1 => x_mv rfl) ?_
        refine w_x rfl (fun w1 h1 => x_nilCheck rfl) ?_
        refine w_x rfl (fun w1 h1 => x_fieldAddr rfl Try.runUnderlying39 rfl Try.sizeOf3 (by decide)) ?_
        refine w_x rfl (fun w1 h1 => x_load rfl (ld_cell Try.isAgg3 ((rd_row (vec_rd ((S49.step h1).at 6 rfl)) hat45 hcur) 3 _ rfl))) ?_
        refine w_x rfl (fun w1 h1 => x_lss rfl rfl) ?_
        refine w_nil ?_
        intro w77 hl78
        have S79 := S49.step hl78
        refine l_nil ?_
        refine r_ifd rfl (fun hc51 => ?_) (fun hc51 => ?_)
        · skip
          have hcur3 : (arcs.set i.toNat (⟨a.src, a.dst, a.lo, hi, a.loBy, a.hiBy⟩ : Arc))[i.toNat]? = some ⟨a.src, a.dst, a.lo, hi, a.loBy, a.hiBy⟩ := set_get hcur
          refine r_drawE 7 (Rsc.fp (vec EA v2634 arcs)) Try.mixed (by kernel_rfl) ?_
          intro w80 hl81
          have S82 := S79.step hl81
          refine e_exact 0 _ (by kernel_rfl) rfl rfl (by kernel_rfl) rfl (ex_x rfl (fun w1 h1 => x_mv rfl)) ?_
          refine e_exact 1 _ (by kernel_rfl) rfl rfl (by kernel_rfl) rfl (ex_x rfl (fun w1 h1 => x_mv rfl)) ?_
          refine e_exact 2 _ (by kernel_rfl) rfl rfl (by kernel_rfl) rfl (ex_x rfl (fun w1 h1 => x_load rfl (ld_blk ((S82.under 6 rfl h1).blk 3 rfl) Try.isAgg3 rfl))) ?_
          refine e_exact 3 _ (by kernel_rfl) rfl rfl (by kernel_rfl) rfl (ex_x rfl (fun w1 h1 => x_load rfl (ld_blk ((S82.under 6 rfl h1).blk 4 rfl) Try.isAgg3 rfl))) ?_
          refine e_exact 4 _ (by kernel_rfl) rfl rfl (by kernel_rfl) rfl (ex_x rfl (fun w1 h1 => x_nilCheck rfl)) ?_
          refine e_exact 5 _ (by kernel_rfl) rfl rfl (by kernel_rfl) rfl (ex_x rfl (fun w1 h1 => x_fieldAddr rfl Try.runUnderlying39 rfl Try.sizeOf3 (by decide))) ?_
          refine e_next [6] (by kernel_rfl) (by kernel_rfl) ⟨⟨_, _, rfl, rfl, ?_⟩, trivial⟩
          refine s_storevi (a' := ⟨a.src, a.dst, a.lo, hi, a.loBy, a.hiBy⟩) (f := 3) S82 6 rfl rfl hat45 rfl rfl Try.sizeOf3 hcur (by decide) rfl ?_
          intro w83 S84 hk85
          refine ⟨hk85, ?_⟩
          refine e_done (by kernel_rfl) ?_
          refine l_x rfl (x_nilCheck rfl) ?_
          refine l_x rfl (x_fieldAddr rfl Try.runUnderlying39 rfl Try.sizeOf3 (by decide)) ?_
          refine l_storevi (a' := ⟨a.src, a.dst, a.lo, hi, a.loBy, r⟩) (f := 5) S84 6 rfl rfl hat45 rfl rfl Try.sizeOf3 hcur3 (by decide) rfl ?_
          intro w86 S87 hk88
          refine l_nil ?_
          refine r_seq ?_
          refine r_region ?_
          refine l_x rfl (x_load rfl (ld_blks (S87.blk 7 rfl) Try.isAgg24 Try.sizeOf24 rfl rfl)) ?_
          refine l_stores (vs := [_, _]) S87 5 rfl rfl rfl rfl (ones_cons rfl (ones_cons (Rd.one (vec_rd (S87.at 6 rfl))) ones_nil)) Try.sizeOf24 (by first | exact Nat.le_refl _ | simp) (splice_all rfl) ?_
          intro w89 S90 hk91
          refine l_x rfl (x_as rfl) ?_
          refine l_nil ?_
          refine r_ret (rs := [.cell 10 24, .tmp 11]) [_, _] Try.func20 rfl ⟨⟨_, rfl, (ld_blks (S90.blk 5 rfl) Try.isAgg24 Try.sizeOf24 rfl rfl)⟩, rfl, trivial⟩ ?_
          exact ⟨v2634, by rw [if_pos h0, h0]; rfl, by rw [if_pos h0]; have hS := S90; rw [nar01 ha0 (by omega) (by omega)] at hS; exact hS.new 6 rfl, S90.le⟩
        · skip
          refine r_skip ?_
          refine r_seq ?_
          refine r_region ?_
          refine l_x rfl (x_load rfl (ld_blks (S79.blk 7 rfl) Try.isAgg24 Try.sizeOf24 rfl rfl)) ?_
          refine l_stores (vs := [_, _]) S79 5 rfl rfl rfl rfl (ones_cons rfl (ones_cons (Rd.one (vec_rd (S79.at 6 rfl))) ones_nil)) Try.sizeOf24 (by first | exact Nat.le_refl _ | simp) (splice_all rfl) ?_
          intro w92 S93 hk94
          refine l_x rfl (x_as rfl) ?_
          refine l_nil ?_
          refine r_ret (rs := [.cell 10 24, .tmp 11]) [_, _] Try.func20 rfl ⟨⟨_, rfl, (ld_blks (S93.blk 5 rfl) Try.isAgg24 Try.sizeOf24 rfl rfl)⟩, rfl, trivial⟩ ?_
          exact ⟨v2634, by rw [if_pos h0, h0]; rfl, by rw [if_pos h0, ← nar00 ha0 (by omega) (by omega)]; exact S93.new 6 rfl, S93.le⟩
    · skip
      refine s_alloc S33 rfl Try.zeroValue24 rfl ?_
      intro b98 w95 S96 hl97
      refine ⟨.of_le hl97, ?_⟩
      refine e_next [4] (by kernel_rfl) (by kernel_rfl) ⟨⟨_, _, rfl, rfl, ?_⟩, trivial⟩
      refine s_callf [] [] [_] rfl rfl Try.call65 rfl ((c_copiedA _ _ (by omega) _ (hA.le S96.le)).mono ?_)
      rintro v2699 w99 ⟨hN2699, hl2699⟩
      have S100 := S96.add hl2699 hN2699
      refine ⟨.of_le hl2699, ?_⟩
      refine e_exact 5 _ (by kernel_rfl) rfl rfl (by kernel_rfl) rfl (ex_x rfl (fun w1 h1 => x_buildS (out := [_, _]) (ss := [1, 1]) Try.zeroValue24 rfl Try.runUnderlying24 ⟨Try.sizeOf3, Try.sizeOf22, trivial⟩ (fill_cons rfl rfl rfl (Nat.le_of_ble_eq_true rfl) (fill_cons rfl (Rd.cells (vec_rd (S100.at 7 rfl))) rfl (Nat.le_of_ble_eq_true rfl) fill_nil)))) ?_
      refine e_done (by kernel_rfl) ?_
      refine l_stores (vs := [_, _]) S100 6 rfl rfl rfl rfl (ones_cons rfl (ones_cons (Rd.one (vec_rd (S100.at 7 rfl))) ones_nil)) Try.sizeOf24 (by first | exact Nat.le_refl _ | simp) (splice_all rfl) ?_
      intro w101 S102 hk103
      refine l_nil ?_
      refine r_seq ?_
      refine r_region ?_
      refine l_x rfl (x_fieldAddr rfl Try.runUnderlying24 rfl Try.sizeOf22 (by decide)) ?_
      refine l_x rfl (x_load rfl (ld_blk (S102.blk 6 rfl) Try.isAgg22 rfl)) ?_
      refine l_x rfl (x_load rfl (ld_blk (S102.blk 1 rfl) Try.isAgg3 rfl)) ?_
      refine l_index EA rfl (vec_rd (S102.at 7 rfl)) rfl rfl Try.runUnderlying22 Try.sizeOf39 (by omega) hcur ?_
      intro b104 o105 hat106 row107
      refine l_x rfl (x_as rfl) ?_
      refine l_nil ?_
      refine r_seq ?_
      refine r_seq ?_
      refine r_drawR 6 Try.mixed (by kernel_rfl) ?_
      refine w_x rfl (fun w1 h1 => x_load rfl (ld_blk ((S102.step h1).blk 2 rfl) Try.isAgg3 rfl)) ?_
      refine w_x rfl (fun w1 h1 => x_mv rfl) ?_
      refine w_x rfl (fun w1 h1 => x_nilCheck rfl) ?_
      refine w_x rfl (fun w1 h1 => x_fieldAddr rfl Try.runUnderlying39 rfl Try.sizeOf3 (by decide)) ?_
      refine w_x rfl (fun w1 h1 => x_load rfl (ld_cell Try.isAgg3 ((rd_row (vec_rd ((S102.step h1).at 7 rfl)) hat106 hcur) 2 _ rfl))) ?_
      refine w_x rfl (fun w1 h1 => x_gtr rfl rfl) ?_
      refine w_nil ?_
      intro w108 hl109
      have S110 := S102.step hl109
      refine l_nil ?_
      refine r_ifd rfl (fun hc37 => ?_) (fun hc37 => ?_)
      · skip
        have hcur1 : (arcs.set i.toNat (⟨a.src, a.dst, lo, a.hi, a.loBy, a.hiBy⟩ : Arc))[i.toNat]? = some ⟨a.src, a.dst, lo, a.hi, a.loBy, a.hiBy⟩ := set_get hcur
        have hcur2 : ((arcs.set i.toNat (⟨a.src, a.dst, lo, a.hi, a.loBy, a.hiBy⟩ : Arc)).set i.toNat (⟨a.src, a.dst, lo, a.hi, r, a.hiBy⟩ : Arc))[i.toNat]? = some ⟨a.src, a.dst, lo, a.hi, r, a.hiBy⟩ := set_get hcur1
        refine r_drawE 7 (Rsc.fp (vec EA v2699 arcs)) Try.mixed (by kernel_rfl) ?_
        intro w111 hl112
        have S113 := S110.step hl112
        refine e_exact 0 _ (by kernel_rfl) rfl rfl (by kernel_rfl) rfl (ex_x rfl (fun w1 h1 => x_mv rfl)) ?_
        refine e_exact 1 _ (by kernel_rfl) rfl rfl (by kernel_rfl) rfl (ex_x rfl (fun w1 h1 => x_mv rfl)) ?_
        refine e_exact 2 _ (by kernel_rfl) rfl rfl (by kernel_rfl) rfl (ex_x rfl (fun w1 h1 => x_load rfl (ld_blk ((S113.under 7 rfl h1).blk 2 rfl) Try.isAgg3 rfl))) ?_
        refine e_exact 3 _ (by kernel_rfl) rfl rfl (by kernel_rfl) rfl (ex_x rfl (fun w1 h1 => x_load rfl (ld_blk ((S113.under 7 rfl h1).blk 4 rfl) Try.isAgg3 rfl))) ?_
        refine e_exact 4 _ (by kernel_rfl) rfl rfl (by kernel_rfl) rfl (ex_x rfl (fun w1 h1 => x_nilCheck rfl)) ?_
        refine e_exact 5 _ (by kernel_rfl) rfl rfl (by kernel_rfl) rfl (ex_x rfl (fun w1 h1 => x_fieldAddr rfl Try.runUnderlying39 rfl Try.sizeOf3 (by decide))) ?_
        refine e_next [6] (by kernel_rfl) (by kernel_rfl) ⟨⟨_, _, rfl, rfl, ?_⟩, trivial⟩
        refine s_storevi (a' := ⟨a.src, a.dst, lo, a.hi, a.loBy, a.hiBy⟩) (f := 2) S113 7 rfl rfl hat106 rfl rfl Try.sizeOf3 hcur (by decide) rfl ?_
        intro w114 S115 hk116
        refine ⟨hk116, ?_⟩
        refine e_done (by kernel_rfl) ?_
        refine l_x rfl (x_nilCheck rfl) ?_
        refine l_x rfl (x_fieldAddr rfl Try.runUnderlying39 rfl Try.sizeOf3 (by decide)) ?_
        refine l_storevi (a' := ⟨a.src, a.dst, lo, a.hi, r, a.hiBy⟩) (f := 4) S115 7 rfl rfl hat106 rfl rfl Try.sizeOf3 hcur1 (by decide) rfl ?_
        intro w117 S118 hk119
        refine l_nil ?_
        refine r_seq ?_
        refine r_seq ?_
        have hcur := hcur2
        refine r_drawR 6 Try.mixed (by kernel_rfl) ?_
        refine w_x rfl (fun w1 h1 => x_load rfl (ld_blk ((S118.step h1).blk 3 rfl) Try.isAgg3 rfl)) ?_
        refine w_x rfl (fun w1 h1 => x_mv rfl) ?_
        refine w_x rfl (fun w1 h1 => x_nilCheck rfl) ?_
        refine w_x rfl (fun w1 h1 => x_fieldAddr rfl Try.runUnderlying39 rfl Try.sizeOf3 (by decide)) ?_
        refine w_x rfl (fun w1 h1 => x_load rfl (ld_cell Try.isAgg3 ((rd_row (vec_rd ((S118.step h1).at 7 rfl)) hat106 hcur) 3 _ rfl))) ?_
        refine w_x rfl (fun w1 h1 => x_lss rfl rfl) ?_
        refine w_nil ?_
        intro w120 hl121
        have S122 := S118.step hl121
        refine l_nil ?_
        refine r_ifd rfl (fun hc51 => ?_) (fun hc51 => ?_)
        · skip
          have hcur3 : (((arcs.set i.toNat (⟨a.src, a.dst, lo, a.hi, a.loBy, a.hiBy⟩ : Arc)).set i.toNat (⟨a.src, a.dst, lo, a.hi, r, a.hiBy⟩ : Arc)).set i.toNat (⟨a.src, a.dst, lo, hi, r, a.hiBy⟩ : Arc))[i.toNat]? = some ⟨a.src, a.dst, lo, hi, r, a.hiBy⟩ := set_get hcur
          refine r_drawE 7 (Rsc.fp (vec EA v2699 ((arcs.set i.toNat (⟨a.src, a.dst, lo, a.hi, a.loBy, a.hiBy⟩ : Arc)).set i.toNat (⟨a.src, a.dst, lo, a.hi, r, a.hiBy⟩ : Arc)))) Try.mixed (by kernel_rfl) ?_
          intro w123 hl124
          have S125 := S122.step hl124
          refine e_exact 0 _ (by kernel_rfl) rfl rfl (by kernel_rfl) rfl (ex_x rfl (fun w1 h1 => x_mv rfl)) ?_
          refine e_exact 1 _ (by kernel_rfl) rfl rfl (by kernel_rfl) rfl (ex_x rfl (fun w1 h1 => x_mv rfl)) ?_
          refine e_exact 2 _ (by kernel_rfl) rfl rfl (by kernel_rfl) rfl (ex_x rfl (fun w1 h1 => x_load rfl (ld_blk ((S125.under 7 rfl h1).blk 3 rfl) Try.isAgg3 rfl))) ?_
          refine e_exact 3 _ (by kernel_rfl) rfl rfl (by kernel_rfl) rfl (ex_x rfl (fun w1 h1 => x_load rfl (ld_blk ((S125.under 7 rfl h1).blk 4 rfl) Try.isAgg3 rfl))) ?_
          refine e_exact 4 _ (by kernel_rfl) rfl rfl (by kernel_rfl) rfl (ex_x rfl (fun w1 h1 => x_nilCheck rfl)) ?_
          refine e_exact 5 _ (by kernel_rfl) rfl rfl (by kernel_rfl) rfl (ex_x rfl (fun w1 h1 => x_fieldAddr rfl Try.runUnderlying39 rfl Try.sizeOf3 (by decide))) ?_
          refine e_next [6] (by kernel_rfl) (by kernel_rfl) ⟨⟨_, _, rfl, rfl, ?_⟩, trivial⟩
          refine s_storevi (a' := ⟨a.src, a.dst, lo, hi, r, a.hiBy⟩) (f := 3) S125 7 rfl rfl hat106 rfl rfl Try.sizeOf3 hcur (by decide) rfl ?_
          intro w126 S127 hk128
          refine ⟨hk128, ?_⟩
          refine e_done (by kernel_rfl) ?_
          refine l_x rfl (x_nilCheck rfl) ?_
          refine l_x rfl (x_fieldAddr rfl Try.runUnderlying39 rfl Try.sizeOf3 (by decide)) ?_
          refine l_storevi (a' := ⟨a.src, a.dst, lo, hi, r, r⟩) (f := 5) S127 7 rfl rfl hat106 rfl rfl Try.sizeOf3 hcur3 (by decide) rfl ?_
          intro w129 S130 hk131
          refine l_nil ?_
          refine r_seq ?_
          refine r_region ?_
          refine l_x rfl (x_load rfl (ld_blks (S130.blk 6 rfl) Try.isAgg24 Try.sizeOf24 rfl rfl)) ?_
          refine l_stores (vs := [_, _]) S130 5 rfl rfl rfl rfl (ones_cons rfl (ones_cons (Rd.one (vec_rd (S130.at 7 rfl))) ones_nil)) Try.sizeOf24 (by first | exact Nat.le_refl _ | simp) (splice_all rfl) ?_
          intro w132 S133 hk134
          refine l_x rfl (x_as rfl) ?_
          refine l_nil ?_
          refine r_ret (rs := [.cell 10 24, .tmp 11]) [_, _] Try.func20 rfl ⟨⟨_, rfl, (ld_blks (S133.blk 5 rfl) Try.isAgg24 Try.sizeOf24 rfl rfl)⟩, rfl, trivial⟩ ?_
          exact ⟨v2699, by rw [if_pos h0, h0]; rfl, by rw [if_pos h0]; have hS := S133; rw [nar11 ha0 (by omega) (by omega)] at hS; exact hS.new 7 rfl, S133.le⟩
        · skip
          refine r_skip ?_
          refine r_seq ?_
          refine r_region ?_
          refine l_x rfl (x_load rfl (ld_blks (S122.blk 6 rfl) Try.isAgg24 Try.sizeOf24 rfl rfl)) ?_
          refine l_stores (vs := [_, _]) S122 5 rfl rfl rfl rfl (ones_cons rfl (ones_cons (Rd.one (vec_rd (S122.at 7 rfl))) ones_nil)) Try.sizeOf24 (by first | exact Nat.le_refl _ | simp) (splice_all rfl) ?_
          intro w135 S136 hk137
          refine l_x rfl (x_as rfl) ?_
          refine l_nil ?_
          refine r_ret (rs := [.cell 10 24, .tmp 11]) [_, _] Try.func20 rfl ⟨⟨_, rfl, (ld_blks (S136.blk 5 rfl) Try.isAgg24 Try.sizeOf24 rfl rfl)⟩, rfl, trivial⟩ ?_
          exact ⟨v2699, by rw [if_pos h0, h0]; rfl, by rw [if_pos h0]; have hS := S136; rw [nar10 ha0 (by omega) (by omega)] at hS; exact hS.new 7 rfl, S136.le⟩
      · skip
        refine r_skip ?_
        refine r_seq ?_
        refine r_seq ?_
        
        refine r_drawR 6 Try.mixed (by kernel_rfl) ?_
        refine w_x rfl (fun w1 h1 => x_load rfl (ld_blk ((S110.step h1).blk 3 rfl) Try.isAgg3 rfl)) ?_
        refine w_x rfl (fun w1 h1 => x_mv rfl) ?_
        refine w_x rfl (fun w1 h1 => x_nilCheck rfl) ?_
        refine w_x rfl (fun w1 h1 => x_fieldAddr rfl Try.runUnderlying39 rfl Try.sizeOf3 (by decide)) ?_
        refine w_x rfl (fun w1 h1 => x_load rfl (ld_cell Try.isAgg3 ((rd_row (vec_rd ((S110.step h1).at 7 rfl)) hat106 hcur) 3 _ rfl))) ?_
        refine w_x rfl (fun w1 h1 => x_lss rfl rfl) ?_
        refine w_nil ?_
        intro w138 hl139
        have S140 := S110.step hl139
        refine l_nil ?_
        refine r_ifd rfl (fun hc51 => ?_) (fun hc51 => ?_)
        · skip
          have hcur3 : (arcs.set i.toNat (⟨a.src, a.dst, a.lo, hi, a.loBy, a.hiBy⟩ : Arc))[i.toNat]? = some ⟨a.src, a.dst, a.lo, hi, a.loBy, a.hiBy⟩ := set_get hcur
          refine r_drawE 7 (Rsc.fp (vec EA v2699 arcs)) Try.mixed (by kernel_rfl) ?_
          intro w141 hl142
          have S143 := S140.step hl142
          refine e_exact 0 _ (by kernel_rfl) rfl rfl (by kernel_rfl) rfl (ex_x rfl (fun w1 h1 => x_mv rfl)) ?_
          refine e_exact 1 _ (by kernel_rfl) rfl rfl (by kernel_rfl) rfl (ex_x rfl (fun w1 h1 => x_mv rfl)) ?_
          refine e_exact 2 _ (by kernel_rfl) rfl rfl (by kernel_rfl) rfl (ex_x rfl (fun w1 h1 => x_load rfl (ld_blk ((S143.under 7 rfl h1).blk 3 rfl) Try.isAgg3 rfl))) ?_
          refine e_exact 3 _ (by kernel_rfl) rfl rfl (by kernel_rfl) rfl (ex_x rfl (fun w1 h1 => x_load rfl (ld_blk ((S143.under 7 rfl h1).blk 4 rfl) Try.isAgg3 rfl))) ?_
          refine e_exact 4 _ (by kernel_rfl) rfl rfl (by kernel_rfl) rfl (ex_x rfl (fun w1 h1 => x_nilCheck rfl)) ?_
          refine e_exact 5 _ (by kernel_rfl) rfl rfl (by kernel_rfl) rfl (ex_x rfl (fun w1 h1 => x_fieldAddr rfl Try.runUnderlying39 rfl Try.sizeOf3 (by decide))) ?_
          refine e_next [6] (by kernel_rfl) (by kernel_rfl) ⟨⟨_, _, rfl, rfl, ?_⟩, trivial⟩
          refine s_storevi (a' := ⟨a.src, a.dst, a.lo, hi, a.loBy, a.hiBy⟩) (f := 3) S143 7 rfl rfl hat106 rfl rfl Try.sizeOf3 hcur (by decide) rfl ?_
          intro w144 S145 hk146
          refine ⟨hk146, ?_⟩
          refine e_done (by kernel_rfl) ?_
          refine l_x rfl (x_nilCheck rfl) ?_
          refine l_x rfl (x_fieldAddr rfl Try.runUnderlying39 rfl Try.sizeOf3 (by decide)) ?_
          refine l_storevi (a' := ⟨a.src, a.dst, a.lo, hi, a.loBy, r⟩) (f := 5) S145 7 rfl rfl hat106 rfl rfl Try.sizeOf3 hcur3 (by decide) rfl ?_
          intro w147 S148 hk149
          refine l_nil ?_
          refine r_seq ?_
          refine r_region ?_
          refine l_x rfl (x_load rfl (ld_blks (S148.blk 6 rfl) Try.isAgg24 Try.sizeOf24 rfl rfl)) ?_
          refine l_stores (vs := [_, _]) S148 5 rfl rfl rfl rfl (ones_cons rfl (ones_cons (Rd.one (vec_rd (S148.at 7 rfl))) ones_nil)) Try.sizeOf24 (by first | exact Nat.le_refl _ | simp) (splice_all rfl) ?_
          intro w150 S151 hk152
          refine l_x rfl (x_as rfl) ?_
          refine l_nil ?_
          refine r_ret (rs := [.cell 10 24, .tmp 11]) [_, _] Try.func20 rfl ⟨⟨_, rfl, (ld_blks (S151.blk 5 rfl) Try.isAgg24 Try.sizeOf24 rfl rfl)⟩, rfl, trivial⟩ ?_
          exact ⟨v2699, by rw [if_pos h0, h0]; rfl, by rw [if_pos h0]; have hS := S151; rw [nar01 ha0 (by omega) (by omega)] at hS; exact hS.new 7 rfl, S151.le⟩
        · skip
          refine r_skip ?_
          refine r_seq ?_
          refine r_region ?_
          refine l_x rfl (x_load rfl (ld_blks (S140.blk 6 rfl) Try.isAgg24 Try.sizeOf24 rfl rfl)) ?_
          refine l_stores (vs := [_, _]) S140 5 rfl rfl rfl rfl (ones_cons rfl (ones_cons (Rd.one (vec_rd (S140.at 7 rfl))) ones_nil)) Try.sizeOf24 (by first | exact Nat.le_refl _ | simp) (splice_all rfl) ?_
          intro w153 S154 hk155
          refine l_x rfl (x_as rfl) ?_
          refine l_nil ?_
          refine r_ret (rs := [.cell 10 24, .tmp 11]) [_, _] Try.func20 rfl ⟨⟨_, rfl, (ld_blks (S154.blk 5 rfl) Try.isAgg24 Try.sizeOf24 rfl rfl)⟩, rfl, trivial⟩ ?_
          exact ⟨v2699, by rw [if_pos h0, h0]; rfl, by rw [if_pos h0, ← nar00 ha0 (by omega) (by omega)]; exact S154.new 7 rfl, S154.le⟩

end Go.Proofs

/-
  Contracts of functions of the program: each by symbolic execution of its text.
-/
namespace Go.Proofs
open Go Go.Vk Go.Vk.Flow

theorem take_same {a b : List Int} {i : Nat} {x y : Int} (hx : a[i]? = some x) (hy : b[i]? = some y) (e : x = y) (h : a.take i = b.take i) : a.take (i + 1) = b.take (i + 1) := by
  rw [List.take_add_one, List.take_add_one, hx, hy, h, e]

/-- couchant/couchantref06.SameInts. -/
theorem c_SameInts (va : Value) (a : List Int) (vb : Value) (b : List Int) (hm : a.length ≤ 9223372036854775807) (w : World) (Ha : Rd EI w va a) (Hb : Rd EI w vb b) :
    Cl Try.prog 29 #[va, vb] w fun v w' => v = .bool (decide (a = b)) ∧ Le w w' := by
  refine fn_of_run (args := [_, _]) 26 Try.func29 rfl rfl rfl fun cs => ?_
  have S := Own.start (X := nob) w
  refine r_seq ?_
  refine r_region ?_
  refine l_x rfl (x_as rfl) ?_
  refine l_nil ?_
  refine r_seq ?_
  refine r_seq ?_
  refine r_region ?_
  refine l_x rfl (x_mv rfl) ?_
  refine l_x rfl (x_len (Ha.le S.le) rfl Try.runUnderlying25) ?_
  refine l_x rfl (x_mv rfl) ?_
  refine l_x rfl (x_len (Hb.le S.le) rfl Try.runUnderlying25) ?_
  refine l_x rfl (x_neq rfl rfl) ?_
  refine l_nil ?_
  refine r_ifd rfl (fun hc10 => ?_) (fun hc10 => ?_)
  · skip
    refine r_seq ?_
    refine r_region ?_
    refine l_x rfl (x_as rfl) ?_
    refine l_nil ?_
    refine r_ret (rs := [.tmp 4]) [_] Try.func29 rfl ⟨rfl, trivial⟩ ?_
    exact ⟨congrArg Value.bool (decide_eq_false (fun h => by subst h; omega)).symm, S.le⟩
  · skip
    have hab : a.length = b.length := by omega
    refine r_skip ?_
    refine r_seq ?_
    refine r_seq ?_
    refine r_region ?_
    refine l_x rfl (x_as rfl) ?_
    refine l_nil ?_
    refine r_block ?_
    refine r_loop (G := Nat) (fun i => a.length - i) (fun i => [(0, va), (1, vb), (5, .int .i64 i)]) (fun i w' => (i ≤ a.length) ∧ (a.take i = b.take i) ∧ Own nob w w' []) 0 ⟨rfl, rfl, rfl, trivial⟩ ⟨Nat.zero_le _, by simp, S⟩ ?_
    rintro i ρ w1 ⟨hi, hs, S1⟩ IH
    refine r_seq ?_
    refine r_seq ?_
    refine r_region ?_
    refine l_x rfl (x_mv rfl) ?_
    refine l_x rfl (x_mv rfl) ?_
    refine l_x rfl (x_len (Ha.le S1.le) rfl Try.runUnderlying25) ?_
    refine l_x rfl (x_lss rfl rfl) ?_
    refine l_nil ?_
    refine r_ifd rfl (fun hc14 => ?_) (fun hc14 => ?_)
    · skip
      obtain ⟨x, hx⟩ : ∃ x, a[i]? = some x := ⟨_, List.getElem?_eq_getElem (by omega)⟩
      obtain ⟨y, hy⟩ : ∃ y, b[i]? = some y := ⟨_, List.getElem?_eq_getElem (by omega)⟩
      refine r_skip ?_
      refine r_seq ?_
      refine r_block ?_
      refine r_seq ?_
      refine r_drawR 9 Try.mixed (by kernel_rfl) ?_
      refine w_x rfl (fun w1 h1 => x_mv rfl) ?_
      refine w_x rfl (fun w1 h1 => x_mv rfl) ?_
      refine w_index EI rfl (Ha.le S1.le) rfl rfl Try.runUnderlying25 Try.sizeOf3 (by omega) (by first | assumption | exact List.getElem?_eq_getElem (by omega)) ?_
      intro b1 o2 hat3 row4
      refine w_x rfl (fun w1 h1 => x_load rfl (ld_cell Try.isAgg3 ((row4.le h1) 0 _ rfl))) ?_
      refine w_x rfl (fun w1 h1 => x_mv rfl) ?_
      refine w_x rfl (fun w1 h1 => x_mv rfl) ?_
      refine w_index EI rfl (Hb.le S1.le) rfl rfl Try.runUnderlying25 Try.sizeOf3 (by omega) (by first | assumption | exact List.getElem?_eq_getElem (by omega)) ?_
      intro b5 o6 hat7 row8
      refine w_x rfl (fun w1 h1 => x_load rfl (ld_cell Try.isAgg3 ((row8.le h1) 0 _ rfl))) ?_
      refine w_x rfl (fun w1 h1 => x_neq rfl rfl) ?_
      refine w_nil ?_
      intro w9 hl10
      have S11 := S1.step hl10
      refine l_nil ?_
      refine r_ifd rfl (fun hc25 => ?_) (fun hc25 => ?_)
      · skip
        refine r_seq ?_
        refine r_region ?_
        refine l_x rfl (x_as rfl) ?_
        refine l_nil ?_
        refine r_ret (rs := [.tmp 4]) [_] Try.func29 rfl ⟨rfl, trivial⟩ ?_
        exact ⟨congrArg Value.bool (decide_eq_false (fun h => by subst h; rw [hx] at hy; exact hc25 (Option.some.inj hy))).symm, S11.le⟩
      · skip
        have hc25 : x = y := Decidable.not_not.1 hc25
        refine r_skip ?_
        refine r_inBlock ?_
        refine r_region ?_
        refine l_x rfl (x_mv rfl) ?_
        refine l_x rfl (x_add rfl rfl (by omega)) ?_
        refine l_x rfl (x_as rfl) ?_
        refine l_nil ?_
        exact IH (i + 1) _ _ (by omega) ⟨rfl, rfl, rfl, trivial⟩ ⟨by omega, take_same hx hy hc25 hs, S11⟩
    · skip
      have hie : i = a.length := by omega
      subst hie
      refine r_exit rfl ?_
      refine r_seq ?_
      refine r_region ?_
      refine l_x rfl (x_as rfl) ?_
      refine l_nil ?_
      refine r_ret (rs := [.tmp 4]) [_] Try.func29 rfl ⟨rfl, trivial⟩ ?_
      exact ⟨congrArg Value.bool (decide_eq_true (by rw [List.take_length] at hs; rw [hs, hab, List.take_length])).symm, S1.le⟩

/-- couchant/couchantlaw06.network. -/
theorem c_network  (w : World) :
    Cl Try.prog 61 #[] w fun v w' => ∃ vn, v = .agg #[.int .i64 3, vn] ∧ New w w' (vec EA vn netA) ∧ Le w w' := by
  refine fn_of_run (args := []) 7 Try.func61 rfl rfl rfl fun cs => ?_
  have S := Own.start (X := nob) w
  refine r_seq ?_
  refine r_region ?_
  refine l_alloc S rfl Try.zeroValue24 rfl ?_
  intro b4 w1 S2 hl3
  refine l_nil ?_
  refine r_seq ?_
  refine r_region ?_
  refine l_x rfl (x_buildS (out := [_, _, _, _, _, _]) (ss := [1, 1, 1, 1, 1, 1]) Try.zeroValue39 rfl Try.runUnderlying39 ⟨Try.sizeOf3, Try.sizeOf3, Try.sizeOf3, Try.sizeOf3, Try.sizeOf3, Try.sizeOf3, trivial⟩ (fill_cons rfl rfl rfl (Nat.le_of_ble_eq_true rfl) (fill_cons rfl rfl rfl (Nat.le_of_ble_eq_true rfl) (fill_cons rfl rfl rfl (Nat.le_of_ble_eq_true rfl) (fill_cons rfl rfl rfl (Nat.le_of_ble_eq_true rfl) (fill_cons rfl rfl rfl (Nat.le_of_ble_eq_true rfl) (fill_cons rfl rfl rfl (Nat.le_of_ble_eq_true rfl) fill_nil))))))) ?_
  refine l_x rfl (x_buildS (out := [_, _, _, _, _, _]) (ss := [1, 1, 1, 1, 1, 1]) Try.zeroValue39 rfl Try.runUnderlying39 ⟨Try.sizeOf3, Try.sizeOf3, Try.sizeOf3, Try.sizeOf3, Try.sizeOf3, Try.sizeOf3, trivial⟩ (fill_cons rfl rfl rfl (Nat.le_of_ble_eq_true rfl) (fill_cons rfl rfl rfl (Nat.le_of_ble_eq_true rfl) (fill_cons rfl rfl rfl (Nat.le_of_ble_eq_true rfl) (fill_cons rfl rfl rfl (Nat.le_of_ble_eq_true rfl) fill_nil))))) ?_
  refine l_x rfl (x_buildS (out := [_, _, _, _, _, _]) (ss := [1, 1, 1, 1, 1, 1]) Try.zeroValue39 rfl Try.runUnderlying39 ⟨Try.sizeOf3, Try.sizeOf3, Try.sizeOf3, Try.sizeOf3, Try.sizeOf3, Try.sizeOf3, trivial⟩ (fill_cons rfl rfl rfl (Nat.le_of_ble_eq_true rfl) (fill_cons rfl rfl rfl (Nat.le_of_ble_eq_true rfl) (fill_cons rfl rfl rfl (Nat.le_of_ble_eq_true rfl) fill_nil)))) ?_
  refine l_x rfl (x_buildS (out := [_, _, _, _, _, _]) (ss := [1, 1, 1, 1, 1, 1]) Try.zeroValue39 rfl Try.runUnderlying39 ⟨Try.sizeOf3, Try.sizeOf3, Try.sizeOf3, Try.sizeOf3, Try.sizeOf3, Try.sizeOf3, trivial⟩ (fill_cons rfl rfl rfl (Nat.le_of_ble_eq_true rfl) (fill_cons rfl rfl rfl (Nat.le_of_ble_eq_true rfl) (fill_cons rfl rfl rfl (Nat.le_of_ble_eq_true rfl) (fill_cons rfl rfl rfl (Nat.le_of_ble_eq_true rfl) fill_nil))))) ?_
  refine l_buildSlice EA netA S2 rfl Try.runUnderlying22 Try.sizeOf39 Try.zeroValue39 rfl ⟨rfl, rfl, rfl, rfl, rfl, rfl, rfl, rfl, trivial⟩ (Nat.le_of_ble_eq_true rfl) ?_
  intro v8 w5 S6 hl7
  refine l_x rfl (x_buildS (out := [_, _]) (ss := [1, 1]) Try.zeroValue24 rfl Try.runUnderlying24 ⟨Try.sizeOf3, Try.sizeOf22, trivial⟩ (fill_cons rfl rfl rfl (Nat.le_of_ble_eq_true rfl) (fill_cons rfl (Rd.cells (vec_rd (S6.at 1 rfl))) rfl (Nat.le_of_ble_eq_true rfl) fill_nil))) ?_
  refine l_stores (vs := [_, _]) S6 0 rfl rfl rfl rfl (ones_cons rfl (ones_cons (Rd.one (vec_rd (S6.at 1 rfl))) ones_nil)) Try.sizeOf24 (by first | exact Nat.le_refl _ | simp) (splice_all rfl) ?_
  intro w9 S10 hk11
  refine l_nil ?_
  refine r_ret (rs := [.cell 0 24]) [_] Try.func61 rfl ⟨⟨_, rfl, (ld_blks (S10.blk 0 rfl) Try.isAgg24 Try.sizeOf24 rfl rfl)⟩, trivial⟩ ?_
  exact ⟨_, rfl, S10.new 1 rfl, S10.le⟩

/-- Narrow, where it may. -/
theorem c_NarrowOk (N : Int) (va : Value) (arcs : List Arc) (i lo hi r : Int) (h0 : narE N arcs i lo hi r = 0) (w : World) (hA : Rd EA w va arcs) :
    Cl Try.prog 20 #[.agg #[.int .i64 N, va], .int .i64 i, .int .i64 lo, .int .i64 hi, .int .i64 r] w fun v w' => ∃ vh, v = .tuple #[.agg #[.int .i64 N, vh], .int .i64 0] ∧ New w w' (vec EA vh (nar arcs i.toNat lo hi r)) ∧ Le w w' :=
  (c_Narrow N va arcs i lo hi r w hA).mono fun _ _ ⟨vh, h1, h2, h3⟩ => ⟨vh, by rw [h1, if_pos h0, h0], by rw [if_pos h0] at h2; exact h2, h3⟩
/-- Narrow, both ways. -/
theorem c_Narrow2 (N : Int) (va : Value) (arcs : List Arc) (i lo hi r : Int) (w : World) (hA : Rd EA w va arcs) :
    Cl Try.prog 20 #[.agg #[.int .i64 N, va], .int .i64 i, .int .i64 lo, .int .i64 hi, .int .i64 r] w fun v w' =>
      (∃ vh, v = .tuple #[.agg #[.int .i64 N, vh], .int .i64 0] ∧ New w w' (vec EA vh (nar arcs i.toNat lo hi r)) ∧ Le w w' ∧ narE N arcs i lo hi r = 0) ∨
      (∃ vh e, v = .tuple #[.agg #[.int .i64 0, vh], .int .i64 e] ∧ New w w' (vec EA vh []) ∧ Le w w' ∧ e = narE N arcs i lo hi r ∧ ¬ e = 0) := by
  refine (c_Narrow N va arcs i lo hi r w hA).mono fun _ _ ⟨vh, h1, h2, h3⟩ => ?_
  by_cases h0 : narE N arcs i lo hi r = 0
  · exact .inl ⟨vh, by rw [h1, if_pos h0, h0], by rw [if_pos h0] at h2; exact h2, h3, h0⟩
  · exact .inr ⟨vh, _, by rw [h1, if_neg h0], by rw [if_neg h0] at h2; exact h2, h3, rfl, h0⟩

set_option maxHeartbeats 4000000 in
/-- couchant/couchantlaw06.flowing. -/
theorem c_flowing  (w : World) :
    Cl Try.prog 19 #[] w fun v w' => v = .bool true ∧ Le w w' := by
  refine fn_of_run (args := []) 197 Try.func19 rfl rfl rfl fun cs => ?_
  have S := Own.start (X := nob) w
  refine r_seq ?_
  refine r_region ?_
  refine l_x rfl (x_as rfl) ?_
  refine l_nil ?_
  refine r_seq ?_
  refine r_region ?_
  refine l_call [] [] [] rfl rfl Try.call61 rfl (c_network _) ?_
  rintro _ w1 ⟨vn301, rfl, hN301, hl301⟩
  have S2 := S.add hl301 hN301
  refine l_alloc S2 rfl Try.zeroValue24 rfl ?_
  intro b6 w3 S4 hl5
  refine l_stores (vs := [_, _]) S4 1 rfl rfl rfl rfl (ones_cons rfl (ones_cons (Rd.one (vec_rd (S4.at 0 rfl))) ones_nil)) Try.sizeOf24 (by first | exact Nat.le_refl _ | simp) (splice_all rfl) ?_
  intro w7 S8 hk9
  refine l_nil ?_
  refine r_seq ?_
  refine r_region ?_
  refine l_x rfl (x_load rfl (ld_blks (S8.blk 1 rfl) Try.isAgg24 Try.sizeOf24 rfl rfl)) ?_
  refine l_buildSlice EI [3, 2, 2, 1] S8 rfl Try.runUnderlying25 Try.sizeOf3 Try.zeroValue3 rfl ⟨rfl, rfl, rfl, rfl, rfl, rfl, rfl, rfl, trivial⟩ (Nat.le_of_ble_eq_true rfl) ?_
  intro v13 w10 S11 hl12
  refine l_call [] [] [_, _] rfl rfl Try.call21 rfl (c_Kept _ _ _ _ _ (by first | omega | (rw [unit_length]; omega) | (rw [List.length_map]; omega) | decide) _ (vec_rd (S11.at 0 rfl)) (vec_rd (S11.at 2 rfl))) ?_
  rintro _ w14 ⟨rfl, hl16⟩
  have S15 := S11.step hl16
  refine l_x rfl (x_mv rfl) ?_
  refine l_x rfl (x_extract rfl rfl) ?_
  refine l_x rfl (x_extract rfl rfl) ?_
  refine l_x rfl (x_as rfl) ?_
  refine l_x rfl (x_as rfl) ?_
  refine l_nil ?_
  refine r_seq ?_
  refine r_slot 2 (.bool true) (congrArg Value.bool netK1) ?_
  refine r_slot 3 (.int .i64 0) (congrArg (Value.int .i64) netE1) ?_
  refine r_region ?_
  refine l_x rfl (x_load rfl (ld_blks (S15.blk 1 rfl) Try.isAgg24 Try.sizeOf24 rfl rfl)) ?_
  refine l_buildSlice EI [1, 1, 1, 0] S15 rfl Try.runUnderlying25 Try.sizeOf3 Try.zeroValue3 rfl ⟨rfl, rfl, rfl, rfl, rfl, rfl, rfl, rfl, trivial⟩ (Nat.le_of_ble_eq_true rfl) ?_
  intro v20 w17 S18 hl19
  refine l_call [] [] [_, _] rfl rfl Try.call21 rfl (c_Kept _ _ _ _ _ (by first | omega | (rw [unit_length]; omega) | (rw [List.length_map]; omega) | decide) _ (vec_rd (S18.at 0 rfl)) (vec_rd (S18.at 3 rfl))) ?_
  rintro _ w21 ⟨rfl, hl23⟩
  have S22 := S18.step hl23
  refine l_x rfl (x_mv rfl) ?_
  refine l_x rfl (x_extract rfl rfl) ?_
  refine l_x rfl (x_extract rfl rfl) ?_
  refine l_x rfl (x_as rfl) ?_
  refine l_x rfl (x_as rfl) ?_
  refine l_nil ?_
  refine r_seq ?_
  refine r_slot 4 (.bool false) (congrArg Value.bool netK2) ?_
  refine r_slot 5 (.int .i64 0) (congrArg (Value.int .i64) netE2) ?_
  refine r_region ?_
  refine l_x rfl (x_load rfl (ld_blks (S22.blk 1 rfl) Try.isAgg24 Try.sizeOf24 rfl rfl)) ?_
  refine l_call [] [] [_, _] rfl rfl Try.call23 rfl (c_Range _ _ _ _ _ (vec_rd (S22.at 0 rfl))) ?_
  rintro _ w24 ⟨lo4524, hi4524, e4524, rfl, hl4524, hR4524⟩
  have S25 := S22.step hl4524
  obtain ⟨rfl, rfl, rfl⟩ := netR hR4524
  refine l_x rfl (x_mv rfl) ?_
  refine l_x rfl (x_extract rfl rfl) ?_
  refine l_x rfl (x_extract rfl rfl) ?_
  refine l_x rfl (x_extract rfl rfl) ?_
  refine l_x rfl (x_as rfl) ?_
  refine l_x rfl (x_as rfl) ?_
  refine l_x rfl (x_as rfl) ?_
  refine l_nil ?_
  refine r_seq ?_
  have S26 := S25.pick (L' := [_, _]) [0, 1] (by decide) rfl
  refine r_forget [(1, .pointer (some ⟨b6, 0, none⟩)), (2, .bool true), (3, .int .i64 0), (4, .bool false), (5, .int .i64 0), (6, .int .i64 2), (7, .int .i64 5), (8, .int .i64 0)] ⟨rfl, rfl, rfl, rfl, rfl, rfl, rfl, rfl, trivial⟩ ?_
  intro ρ27
  refine r_region ?_
  refine l_x rfl (x_load rfl (ld_blks (S26.blk 1 rfl) Try.isAgg24 Try.sizeOf24 rfl rfl)) ?_
  refine l_buildSlice EI [1, 0, 1, 0] S26 rfl Try.runUnderlying25 Try.sizeOf3 Try.zeroValue3 rfl ⟨rfl, rfl, rfl, rfl, rfl, rfl, rfl, rfl, trivial⟩ (Nat.le_of_ble_eq_true rfl) ?_
  intro v31 w28 S29 hl30
  refine l_call [] [] [_, _] rfl rfl Try.call22 rfl (c_Greatest _ _ _ _ _ (by first | omega | (rw [unit_length]; omega) | (rw [List.length_map]; omega) | decide) _ (vec_rd (S29.at 0 rfl)) (vec_rd (S29.at 2 rfl))) ?_
  rintro _ w32 ⟨n5232, vx5232, x5232, vp5232, p5232, e5232, rfl, hO5232, hR5232⟩
  have S33 := S29.join hO5232
  obtain ⟨rfl, rfl, hxA, hx0A, hpA⟩ := netG1 hR5232
  refine l_x rfl (x_mv rfl) ?_
  refine l_x rfl (x_extract rfl rfl) ?_
  refine l_x rfl (x_extract rfl rfl) ?_
  refine l_x rfl (x_extract rfl rfl) ?_
  refine l_x rfl (x_extract rfl rfl) ?_
  refine l_x rfl (x_as rfl) ?_
  refine l_x rfl (x_as rfl) ?_
  refine l_x rfl (x_as rfl) ?_
  refine l_x rfl (x_as rfl) ?_
  refine l_nil ?_
  refine r_seq ?_
  have S34 := S33.pick (L' := [_, _, _, _]) [0, 1, 3, 4] (by decide) rfl
  refine r_forget [(1, .pointer (some ⟨b6, 0, none⟩)), (2, .bool true), (3, .int .i64 0), (4, .bool false), (5, .int .i64 0), (6, .int .i64 2), (7, .int .i64 5), (8, .int .i64 0), (9, .int .i64 9), (10, vx5232), (11, vp5232), (12, .int .i64 0)] ⟨rfl, rfl, rfl, rfl, rfl, rfl, rfl, rfl, rfl, rfl, rfl, rfl, trivial⟩ ?_
  intro ρ35
  refine r_region ?_
  refine l_x rfl (x_load rfl (ld_blks (S34.blk 1 rfl) Try.isAgg24 Try.sizeOf24 rfl rfl)) ?_
  refine l_buildSlice EI [0, 0, 1, 0] S34 rfl Try.runUnderlying25 Try.sizeOf3 Try.zeroValue3 rfl ⟨rfl, rfl, rfl, rfl, rfl, rfl, rfl, rfl, trivial⟩ (Nat.le_of_ble_eq_true rfl) ?_
  intro v39 w36 S37 hl38
  refine l_buildSlice EI [0, 0, -1] S37 rfl Try.runUnderlying25 Try.sizeOf3 Try.zeroValue3 rfl ⟨rfl, rfl, rfl, rfl, rfl, rfl, trivial⟩ (Nat.le_of_ble_eq_true rfl) ?_
  intro v43 w40 S41 hl42
  refine l_call [] [] [_, _, _] rfl rfl Try.call34 rfl (c_Bound _ _ _ _ _ _ _ (by first | omega | (rw [unit_length]; omega) | (rw [List.length_map]; omega) | decide) (by first | omega | (rw [unit_length]; omega) | (rw [List.length_map]; omega) | decide) _ (vec_rd (S41.at 0 rfl)) (vec_rd (S41.at 4 rfl)) (vec_rd (S41.at 5 rfl))) ?_
  rintro _ w44 ⟨rfl, hl46⟩
  have S45 := S41.step hl46
  refine l_x rfl (x_mv rfl) ?_
  refine l_x rfl (x_extract rfl rfl) ?_
  refine l_x rfl (x_extract rfl rfl) ?_
  refine l_x rfl (x_as rfl) ?_
  refine l_x rfl (x_as rfl) ?_
  refine l_nil ?_
  refine r_seq ?_
  refine r_slot 13 (.int .i64 4) (congrArg (Value.int .i64) netB1) ?_
  refine r_slot 14 (.int .i64 0) (congrArg (Value.int .i64) netB2) ?_
  refine r_region ?_
  refine l_x rfl (x_load rfl (ld_blks (S45.blk 1 rfl) Try.isAgg24 Try.sizeOf24 rfl rfl)) ?_
  refine l_buildSlice EI [0, 0, 1, 0] S45 rfl Try.runUnderlying25 Try.sizeOf3 Try.zeroValue3 rfl ⟨rfl, rfl, rfl, rfl, rfl, rfl, rfl, rfl, trivial⟩ (Nat.le_of_ble_eq_true rfl) ?_
  intro v50 w47 S48 hl49
  refine l_call [] [] [_, _] rfl rfl Try.call22 rfl (c_Greatest _ _ _ _ _ (by first | omega | (rw [unit_length]; omega) | (rw [List.length_map]; omega) | decide) _ (vec_rd (S48.at 0 rfl)) (vec_rd (S48.at 6 rfl))) ?_
  rintro _ w51 ⟨n6751, vx6751, x6751, vp6751, p6751, e6751, rfl, hO6751, hR6751⟩
  have S52 := S48.join hO6751
  obtain ⟨rfl, hqB, hq0B, hq1B⟩ := netG2 hR6751
  refine l_x rfl (x_mv rfl) ?_
  refine l_x rfl (x_extract rfl rfl) ?_
  refine l_x rfl (x_extract rfl rfl) ?_
  refine l_x rfl (x_extract rfl rfl) ?_
  refine l_x rfl (x_extract rfl rfl) ?_
  refine l_x rfl (x_as rfl) ?_
  refine l_x rfl (x_as rfl) ?_
  refine l_x rfl (x_as rfl) ?_
  refine l_x rfl (x_as rfl) ?_
  refine l_nil ?_
  refine r_seq ?_
  have S53 := S52.pick (L' := [_, _, _, _, _]) [0, 1, 2, 3, 8] (by decide) rfl
  refine r_forget [(1, .pointer (some ⟨b6, 0, none⟩)), (2, .bool true), (3, .int .i64 0), (4, .bool false), (5, .int .i64 0), (6, .int .i64 2), (7, .int .i64 5), (8, .int .i64 0), (9, .int .i64 9), (10, vx5232), (11, vp5232), (12, .int .i64 0), (13, .int .i64 4), (14, .int .i64 0), (17, vp6751), (18, .int .i64 0)] ⟨rfl, rfl, rfl, rfl, rfl, rfl, rfl, rfl, rfl, rfl, rfl, rfl, rfl, rfl, rfl, rfl, trivial⟩ ?_
  intro ρ54
  refine r_region ?_
  refine l_x rfl (x_load rfl (ld_blks (S53.blk 1 rfl) Try.isAgg24 Try.sizeOf24 rfl rfl)) ?_
  refine l_buildSlice EI [0, 0, 1, 0] S53 rfl Try.runUnderlying25 Try.sizeOf3 Try.zeroValue3 rfl ⟨rfl, rfl, rfl, rfl, rfl, rfl, rfl, rfl, trivial⟩ (Nat.le_of_ble_eq_true rfl) ?_
  intro v58 w55 S56 hl57
  refine l_x rfl (x_mv rfl) ?_
  refine l_call [] [] [_, _, _] rfl rfl Try.call40 rfl (c_Records _ _ _ _ _ _ _ (by first | omega | (rw [unit_length]; omega) | (rw [List.length_map]; omega) | decide) (by first | omega | (rw [unit_length]; omega) | (rw [List.length_map]; omega) | decide) _ (vec_rd (S56.at 0 rfl)) (vec_rd (S56.at 5 rfl)) (vec_rd (S56.at 4 rfl))) ?_
  rintro _ w59 ⟨s7659, rfl, hN7659, hl7659⟩
  rw [if_pos hq0B, hq1B] at hN7659
  have S60 := S56.add hl7659 hN7659
  refine l_x rfl (x_mv rfl) ?_
  refine l_x rfl (x_extract rfl rfl) ?_
  refine l_x rfl (x_extract rfl rfl) ?_
  refine l_x rfl (x_as rfl) ?_
  refine l_x rfl (x_as rfl) ?_
  refine l_nil ?_
  refine r_seq ?_
  refine r_seq ?_
  refine r_slot 20 (.int .i64 0) (congrArg (Value.int .i64) hq0B) ?_
  refine r_region ?_
  refine l_x rfl (x_mv rfl) ?_
  refine l_x rfl (x_neq rfl rfl) ?_
  refine l_x rfl (x_mv rfl) ?_
  refine l_splitd (d := 81) rfl (fun hg81 => ?_) (fun hg81 => ?_)
  · exact absurd hg81 (by omega)
  · skip
    refine l_x rfl (x_mv rfl) ?_
    refine l_x rfl (x_neq rfl rfl) ?_
    refine l_x rfl (x_pick_f rfl rfl) ?_
    refine l_x rfl (x_mv rfl) ?_
    refine l_splitd (d := 85) rfl (fun hg85 => ?_) (fun hg85 => ?_)
    · exact absurd hg85 (by omega)
    · skip
      refine l_x rfl (x_mv rfl) ?_
      refine l_x rfl (x_neq rfl rfl) ?_
      refine l_x rfl (x_pick_f rfl rfl) ?_
      refine l_x rfl (x_mv rfl) ?_
      refine l_splitd (d := 89) rfl (fun hg89 => ?_) (fun hg89 => ?_)
      · exact absurd hg89 (by omega)
      · skip
        refine l_x rfl (x_mv rfl) ?_
        refine l_x rfl (x_neq rfl rfl) ?_
        refine l_x rfl (x_pick_f rfl rfl) ?_
        refine l_x rfl (x_mv rfl) ?_
        refine l_splitd (d := 93) rfl (fun hg93 => ?_) (fun hg93 => ?_)
        · exact absurd hg93 (by omega)
        · skip
          refine l_x rfl (x_mv rfl) ?_
          refine l_x rfl (x_neq rfl rfl) ?_
          refine l_x rfl (x_pick_f rfl rfl) ?_
          refine l_x rfl (x_mv rfl) ?_
          refine l_splitd (d := 97) rfl (fun hg97 => ?_) (fun hg97 => ?_)
          · exact absurd hg97 (by omega)
          · skip
            refine l_x rfl (x_mv rfl) ?_
            refine l_x rfl (x_neq rfl rfl) ?_
            refine l_x rfl (x_pick_f rfl rfl) ?_
            refine l_x rfl (x_mv rfl) ?_
            refine l_splitd (d := 101) rfl (fun hg101 => ?_) (fun hg101 => ?_)
            · exact absurd hg101 (by omega)
            · skip
              refine l_x rfl (x_mv rfl) ?_
              refine l_x rfl (x_neq rfl rfl) ?_
              refine l_x rfl (x_pick_f rfl rfl) ?_
              refine l_x rfl (x_mv rfl) ?_
              refine l_splitd (d := 105) rfl (fun hg105 => ?_) (fun hg105 => ?_)
              · exact absurd hg105 (by omega)
              · skip
                refine l_x rfl (x_mv rfl) ?_
                refine l_x rfl (x_not rfl) ?_
                refine l_x rfl (x_pick_f rfl rfl) ?_
                refine l_x rfl (x_mv rfl) ?_
                refine l_x rfl (x_mv rfl) ?_
                refine l_x rfl (x_pick_f rfl rfl) ?_
                refine l_x rfl (x_mv rfl) ?_
                refine l_x rfl (x_mv rfl) ?_
                refine l_x rfl (x_len (vec_rd (S60.at 2 rfl)) rfl Try.runUnderlying25) ?_
                refine l_x rfl (x_neq rfl rfl) ?_
                refine l_x rfl (x_pick_f rfl rfl) ?_
                refine l_x rfl (x_mv rfl) ?_
                refine l_splitd (d := 117) rfl (fun hg117 => ?_) (fun hg117 => ?_)
                · exact absurd hg117 (by omega)
                · skip
                  refine l_x rfl (x_mv rfl) ?_
                  refine l_x rfl (x_len (vec_rd (S60.at 3 rfl)) rfl Try.runUnderlying25) ?_
                  refine l_x rfl (x_neq rfl rfl) ?_
                  refine l_x rfl (x_pick_f rfl rfl) ?_
                  refine l_nil ?_
                  refine r_ifd rfl (fun hc121 => ?_) (fun hc121 => ?_)
                  · exact absurd hc121 (by omega)
                  · skip
                    refine r_skip ?_
                    refine r_seq ?_
                    have S61 := S60.pick (L' := [_, _, _, _]) [0, 1, 2, 6] (by decide) rfl
                    refine r_forget [(1, .pointer (some ⟨b6, 0, none⟩)), (6, .int .i64 2), (7, .int .i64 5), (9, .int .i64 9), (10, vx5232), (13, .int .i64 4), (19, s7659)] ⟨rfl, rfl, rfl, rfl, rfl, rfl, rfl, trivial⟩ ?_
                    intro ρ62
                    refine r_region ?_
                    refine l_x rfl (x_load rfl (ld_blks (S61.blk 1 rfl) Try.isAgg24 Try.sizeOf24 rfl rfl)) ?_
                    refine l_call [] [] [_, _, _, _, _] rfl rfl Try.call20 rfl (c_NarrowOk 3 _ netA 1 0 0 7 netN1 _ (vec_rd (S61.at 0 rfl))) ?_
                    rintro _ w63 ⟨vh12463, rfl, hN12463, hl12463⟩
                    rw [netNB] at hN12463
                    have S64 := S61.add hl12463 hN12463
                    refine l_x rfl (x_mv rfl) ?_
                    refine l_x rfl (x_extract rfl rfl) ?_
                    refine l_x rfl (x_extract rfl rfl) ?_
                    refine l_alloc S64 rfl Try.zeroValue24 rfl ?_
                    intro b68 w65 S66 hl67
                    refine l_stores (vs := [_, _]) S66 5 rfl rfl rfl rfl (ones_cons rfl (ones_cons (Rd.one (vec_rd (S66.at 4 rfl))) ones_nil)) Try.sizeOf24 (by first | exact Nat.le_refl _ | simp) (splice_all rfl) ?_
                    intro w69 S70 hk71
                    refine l_x rfl (x_as rfl) ?_
                    refine l_nil ?_
                    refine r_seq ?_
                    have S72 := S70.pick (L' := [_, _, _, _, _, _]) [0, 1, 2, 3, 4, 5] (by decide) rfl
                    refine r_forget [(1, .pointer (some ⟨b6, 0, none⟩)), (6, .int .i64 2), (7, .int .i64 5), (9, .int .i64 9), (10, vx5232), (13, .int .i64 4), (19, s7659), (21, .pointer (some ⟨b68, 0, none⟩)), (22, .int .i64 0)] ⟨rfl, rfl, rfl, rfl, rfl, rfl, rfl, rfl, rfl, trivial⟩ ?_
                    intro ρ73
                    refine r_region ?_
                    refine l_x rfl (x_load rfl (ld_blks (S72.blk 5 rfl) Try.isAgg24 Try.sizeOf24 rfl rfl)) ?_
                    refine l_call [] [] [_, _, _, _, _] rfl rfl Try.call20 rfl (c_NarrowOk 3 _ netB 3 0 1 8 netN2 _ (vec_rd (S72.at 4 rfl))) ?_
                    rintro _ w74 ⟨vh12974, rfl, hN12974, hl12974⟩
                    rw [netNC] at hN12974
                    have S75 := S72.add hl12974 hN12974
                    refine l_x rfl (x_mv rfl) ?_
                    refine l_x rfl (x_extract rfl rfl) ?_
                    refine l_x rfl (x_extract rfl rfl) ?_
                    refine l_alloc S75 rfl Try.zeroValue24 rfl ?_
                    intro b79 w76 S77 hl78
                    refine l_stores (vs := [_, _]) S77 7 rfl rfl rfl rfl (ones_cons rfl (ones_cons (Rd.one (vec_rd (S77.at 6 rfl))) ones_nil)) Try.sizeOf24 (by first | exact Nat.le_refl _ | simp) (splice_all rfl) ?_
                    intro w80 S81 hk82
                    refine l_x rfl (x_as rfl) ?_
                    refine l_nil ?_
                    refine r_seq ?_
                    have S83 := S81.pick (L' := [_, _, _, _, _, _]) [0, 1, 2, 3, 6, 7] (by decide) rfl
                    refine r_forget [(1, .pointer (some ⟨b6, 0, none⟩)), (6, .int .i64 2), (7, .int .i64 5), (9, .int .i64 9), (10, vx5232), (13, .int .i64 4), (19, s7659), (22, .int .i64 0), (23, .pointer (some ⟨b79, 0, none⟩)), (24, .int .i64 0)] ⟨rfl, rfl, rfl, rfl, rfl, rfl, rfl, rfl, rfl, rfl, trivial⟩ ?_
                    intro ρ84
                    refine r_region ?_
                    refine l_x rfl (x_load rfl (ld_blks (S83.blk 5 rfl) Try.isAgg24 Try.sizeOf24 rfl rfl)) ?_
                    refine l_call [] [] [_] rfl rfl Try.call44 rfl (c_Obstacle _ _ _ _ (vec_rd (S83.at 4 rfl))) ?_
                    rintro _ w85 ⟨A13485, vn13485, ns13485, is13485, e13485, rfl, hN13485, hl13485, hR13485⟩
                    have S86 := S83.add hl13485 hN13485
                    obtain ⟨rfl, rfl, rfl, rfl⟩ := netO hR13485
                    refine l_x rfl (x_mv rfl) ?_
                    refine l_x rfl (x_extract rfl rfl) ?_
                    refine l_x rfl (x_extract rfl rfl) ?_
                    refine l_x rfl (x_extract rfl rfl) ?_
                    refine l_alloc S86 rfl Try.zeroValue43 rfl ?_
                    intro b90 w87 S88 hl89
                    refine l_stores (vs := [_, _]) S88 7 rfl rfl rfl rfl (ones_cons rfl (ones_cons (Rd.one (vec_rd (S88.at 6 rfl))) ones_nil)) Try.sizeOf43 (by first | exact Nat.le_refl _ | simp) (splice_all rfl) ?_
                    intro w91 S92 hk93
                    refine l_x rfl (x_as rfl) ?_
                    refine l_x rfl (x_as rfl) ?_
                    refine l_nil ?_
                    refine r_seq ?_
                    have S94 := S92.pick (L' := [_, _, _, _, _, _, _, _]) [0, 1, 2, 3, 4, 5, 6, 7] (by decide) rfl
                    refine r_forget [(1, .pointer (some ⟨b6, 0, none⟩)), (6, .int .i64 2), (7, .int .i64 5), (9, .int .i64 9), (10, vx5232), (13, .int .i64 4), (19, s7659), (22, .int .i64 0), (23, .pointer (some ⟨b79, 0, none⟩)), (24, .int .i64 0), (25, .pointer (some ⟨b90, 0, none⟩)), (26, .bool true), (27, .int .i64 0)] ⟨rfl, rfl, rfl, rfl, rfl, rfl, rfl, rfl, rfl, rfl, rfl, rfl, rfl, trivial⟩ ?_
                    intro ρ95
                    refine r_region ?_
                    refine l_x rfl (x_load rfl (ld_blks (S94.blk 5 rfl) Try.isAgg24 Try.sizeOf24 rfl rfl)) ?_
                    refine l_x rfl (x_load rfl (ld_blks (S94.blk 7 rfl) Try.isAgg43 Try.sizeOf43 rfl rfl)) ?_
                    refine l_call [] [] [_, _] rfl rfl Try.call27 rfl (c_ObstacleRecords _ _ _ _ _ _ (by first | omega | (rw [unit_length]; omega) | (rw [List.length_map]; omega) | decide) _ (vec_rd (S94.at 4 rfl)) (vec_rd (S94.at 6 rfl))) ?_
                    rintro _ w96 ⟨s14196, rfl, hN14196, hl14196⟩
                    rw [if_pos netO1, netO2] at hN14196
                    have S97 := S94.add hl14196 hN14196
                    refine l_x rfl (x_mv rfl) ?_
                    refine l_x rfl (x_extract rfl rfl) ?_
                    refine l_x rfl (x_extract rfl rfl) ?_
                    refine l_x rfl (x_as rfl) ?_
                    refine l_x rfl (x_as rfl) ?_
                    refine l_nil ?_
                    refine r_seq ?_
                    refine r_seq ?_
                    refine r_slot 29 (.int .i64 0) (congrArg (Value.int .i64) netO1) ?_
                    refine r_region ?_
                    refine l_x rfl (x_mv rfl) ?_
                    refine l_x rfl (x_neq rfl rfl) ?_
                    refine l_x rfl (x_mv rfl) ?_
                    refine l_splitd (d := 146) rfl (fun hg146 => ?_) (fun hg146 => ?_)
                    · exact absurd hg146 (by omega)
                    · skip
                      refine l_x rfl (x_mv rfl) ?_
                      refine l_x rfl (x_neq rfl rfl) ?_
                      refine l_x rfl (x_pick_f rfl rfl) ?_
                      refine l_x rfl (x_mv rfl) ?_
                      refine l_splitd (d := 150) rfl (fun hg150 => ?_) (fun hg150 => ?_)
                      · exact absurd hg150 (by omega)
                      · skip
                        refine l_x rfl (x_mv rfl) ?_
                        refine l_x rfl (x_neq rfl rfl) ?_
                        refine l_x rfl (x_pick_f rfl rfl) ?_
                        refine l_x rfl (x_mv rfl) ?_
                        refine l_splitd (d := 154) rfl (fun hg154 => ?_) (fun hg154 => ?_)
                        · exact absurd hg154 (by omega)
                        · skip
                          refine l_x rfl (x_mv rfl) ?_
                          refine l_x rfl (x_neq rfl rfl) ?_
                          refine l_x rfl (x_pick_f rfl rfl) ?_
                          refine l_x rfl (x_mv rfl) ?_
                          refine l_splitd (d := 158) rfl (fun hg158 => ?_) (fun hg158 => ?_)
                          · exact absurd hg158 (by omega)
                          · skip
                            refine l_x rfl (x_mv rfl) ?_
                            refine l_x rfl (x_not rfl) ?_
                            refine l_x rfl (x_pick_f rfl rfl) ?_
                            refine l_x rfl (x_mv rfl) ?_
                            refine l_x rfl (x_fieldAddr rfl Try.runUnderlying43 rfl Try.sizeOf3 (by decide)) ?_
                            refine l_x rfl (x_load rfl (ld_blk (S97.blk 7 rfl) Try.isAgg3 rfl)) ?_
                            refine l_x rfl (x_neq rfl rfl) ?_
                            refine l_x rfl (x_pick_f rfl rfl) ?_
                            refine l_nil ?_
                            refine r_ifd rfl (fun hc166 => ?_) (fun hc166 => ?_)
                            · exact absurd hc166 (by omega)
                            · skip
                              refine r_skip ?_
                              refine r_seq ?_
                              have S98 := S97.pick (L' := [_, _, _]) [2, 3, 8] (by decide) rfl
                              refine r_forget [(6, .int .i64 2), (7, .int .i64 5), (9, .int .i64 9), (10, vx5232), (13, .int .i64 4), (19, s7659), (28, s14196)] ⟨rfl, rfl, rfl, rfl, rfl, rfl, rfl, trivial⟩ ?_
                              intro ρ99
                              refine r_region ?_
                              refine l_x rfl (x_mv rfl) ?_
                              refine l_x rfl (x_eql rfl rfl) ?_
                              refine l_x rfl (x_mv rfl) ?_
                              refine l_splitd (d := 169) rfl (fun hg169 => ?_) (fun hg169 => ?_)
                              · skip
                                refine l_x rfl (x_mv rfl) ?_
                                refine l_x rfl (x_eql rfl rfl) ?_
                                refine l_x rfl (x_pick_t rfl rfl) ?_
                                refine l_x rfl (x_mv rfl) ?_
                                refine l_splitd (d := 173) rfl (fun hg173 => ?_) (fun hg173 => ?_)
                                · skip
                                  refine l_x rfl (x_mv rfl) ?_
                                  refine l_x rfl (x_eql rfl rfl) ?_
                                  refine l_x rfl (x_pick_t rfl rfl) ?_
                                  refine l_x rfl (x_mv rfl) ?_
                                  refine l_splitd (d := 177) rfl (fun hg177 => ?_) (fun hg177 => ?_)
                                  · skip
                                    refine l_x rfl (x_mv rfl) ?_
                                    refine l_x rfl (x_eql rfl rfl) ?_
                                    refine l_x rfl (x_pick_t rfl rfl) ?_
                                    refine l_x rfl (x_mv rfl) ?_
                                    refine l_splitd (d := 181) rfl (fun hg181 => ?_) (fun hg181 => ?_)
                                    · skip
                                      refine l_x rfl (x_mv rfl) ?_
                                      refine l_index EI rfl (vec_rd (S98.at 0 rfl)) rfl rfl Try.runUnderlying25 Try.sizeOf3 (by omega) hx0A ?_
                                      intro b100 o101 hat102 row103
                                      refine l_x rfl (x_load rfl (ld_cell Try.isAgg3 (row103 0 _ rfl))) ?_
                                      refine l_x rfl (x_eql rfl rfl) ?_
                                      refine l_x rfl (x_pick_t rfl rfl) ?_
                                      refine l_x rfl (x_mv rfl) ?_
                                      refine l_splitd (d := 187) rfl (fun hg187 => ?_) (fun hg187 => ?_)
                                      · skip
                                        refine l_x rfl (x_mv rfl) ?_
                                        refine l_buildSlice EI [3] S98 rfl Try.runUnderlying25 Try.sizeOf3 Try.zeroValue3 rfl ⟨rfl, rfl, trivial⟩ (Nat.le_of_ble_eq_true rfl) ?_
                                        intro v107 w104 S105 hl106
                                        refine l_call [] [] [_, _] rfl rfl Try.call29 rfl (c_SameInts _ _ _ _ (by first | omega | (simp; done) | (simp; omega)) _ (vec_rd (S105.at 1 rfl)) (vec_rd (S105.at 3 rfl))) ?_
                                        rintro _ w108 ⟨rfl, hl110⟩
                                        have S109 := S105.step hl110
                                        refine l_x rfl (x_pick_t rfl rfl) ?_
                                        refine l_x rfl (x_mv rfl) ?_
                                        refine l_split (d := 192) rfl (fun hg192 => ?_) (fun hg192 => ?_)
                                        · skip
                                          refine l_x rfl (x_mv rfl) ?_
                                          refine l_buildSlice EI [1, 7, 8] S109 rfl Try.runUnderlying25 Try.sizeOf3 Try.zeroValue3 rfl ⟨rfl, rfl, rfl, rfl, rfl, rfl, trivial⟩ (Nat.le_of_ble_eq_true rfl) ?_
                                          intro v114 w111 S112 hl113
                                          refine l_call [] [] [_, _] rfl rfl Try.call29 rfl (c_SameInts _ _ _ _ (by first | omega | (simp; done) | (simp; omega)) _ (vec_rd (S112.at 2 rfl)) (vec_rd (S112.at 4 rfl))) ?_
                                          rintro _ w115 ⟨rfl, hl117⟩
                                          have S116 := S112.step hl117
                                          refine l_x rfl (x_pick_t rfl rfl) ?_
                                          refine l_x rfl (x_as rfl) ?_
                                          refine l_nil ?_
                                          refine r_ret (rs := [.tmp 0]) [_] Try.func19 rfl ⟨rfl, trivial⟩ ?_
                                          exact ⟨congrArg Value.bool (decide_eq_true rfl), S116.le⟩
                                        · exact absurd hg192 (by decide)
                                      · exact absurd rfl hg187
                                    · exact absurd rfl hg181
                                  · exact absurd rfl hg177
                                · exact absurd rfl hg173
                              · exact absurd rfl hg169

end Go.Proofs
