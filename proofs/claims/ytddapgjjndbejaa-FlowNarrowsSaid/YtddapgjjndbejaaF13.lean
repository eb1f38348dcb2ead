/-
  Contracts of functions of the program: each by symbolic execution of its text.
-/
import Derived.Test.YtddapgjjndbejaaF12
namespace Go.Proofs
open Go Go.Vk Go.Vk.Flow

set_option maxHeartbeats 1000000 in
/-- (*couchant/flow.carried).shown. -/
theorem c_shown (N : Int) (va : Value) (arcs : List Arc) (vx : Value) (x : List Int) (vw : Value) (wl : List Int) (mo p : Nat → Int) (hV : Valid N arcs) (hw0 : Wts arcs wl) (hC : Cn N arcs wl x mo p) (bc : Nat) (X : Nat → Prop) (u : World) (hX : ∀ b, X b → u.heap.size ≤ b) (hA : Rd EA u va arcs) (Hw : Rd EI u vw wl) (w : World) (S : Own X w w [blk bc (carC N va vx vw mo p) 91, vec EI vx x]) (h0 : Le u w) :
    Cl Try.prog 73 #[.pointer (some ⟨bc, 0, none⟩)] w fun v w' => ∃ q, Own X w w' [blk bc (carC N va vx vw mo P0) 91, vec EI vx x, vec EI v q] ∧ Pts N q ∧ Slack q arcs x wl := by
  have hNx := hV.max
  have hN1 := hV.pos
  have hLx := hV.len
  have hxA := hC.amts hV
  refine fn_of_run (args := [_]) 55 Try.func73 rfl rfl rfl fun cs => ?_
  refine r_seq ?_
  refine r_region ?_
  refine l_x rfl (x_as rfl) ?_
  refine l_nil ?_
  refine r_seq ?_
  refine r_region ?_
  refine l_x rfl (x_mv rfl) ?_
  refine l_x rfl (x_buildz Try.zeroValue89 zcT Try.runUnderlying89 Try.sizeOf3) ?_
  refine l_x rfl (x_nilCheck rfl) ?_
  refine l_x rfl (x_fieldAddr rfl Try.runUnderlying91 rfl Try.sizeOf89 (by decide)) ?_
  refine l_stores (vs := tab 1000 P0) S 0 rfl rfl rfl rfl tab_one (fun w => by rw [tab_length]; exact Try.sizeOf89 w) (by rw [tab_length, carC_len]; decide) carp_splice ?_
  intro w1 S2 hk3
  refine l_nil ?_
  refine r_seq ?_
  refine r_region ?_
  refine l_alloc S2 rfl Try.zeroValue89 zcT ?_
  intro b7 w4 S5 hl6
  refine l_nil ?_
  refine r_seq ?_
  refine r_seq ?_
  refine r_region ?_
  refine l_alloc S5 rfl Try.zeroValue4 rfl ?_
  intro b11 w8 S9 hl10
  refine l_storeq (c' := [_]) S9 3 rfl rfl rfl rfl rfl Try.sizeOf4 (by simp) rfl ?_
  intro w12 S13 hk14
  refine l_nil ?_
  refine r_block ?_
  refine r_loopD (G := (Nat → Int) × Bool × Nat × List Nat) (fun ⟨c, m, bm, Ds⟩ => mu c m) (fun ⟨c, m, bm, Ds⟩ => [(0, .pointer (some ⟨bc, 0, none⟩)), (3, .pointer (some ⟨b7, 0, none⟩)), (4, .pointer (some ⟨bm, 0, none⟩))]) (fun ⟨c, m, bm, Ds⟩ w' => (Sh p c) ∧ (m = false → Still (stps P0 0 arcs x wl) c) ∧ Own X w w' [blk bc (carC N va vx vw mo P0) 91, vec EI vx x, blk b7 (tab 1000 c) 89, blk bm [.bool m] 4, marksR Ds]) (fun ⟨c, m, bm, Ds⟩ => Ds.map Go.Vk.mark ++ []) (fun _ => 0, true, b11, []) ⟨rfl, rfl, rfl, trivial⟩ ⟨Sh.start hC.pb, (fun h => (by cases h)), (S13.nopack)⟩ rfl ?_
  rintro ⟨c, m, bm, Ds⟩ ρ w1a ⟨hSh, hSt, S1a⟩ IHa
  refine r_seq ?_
  refine r_seq ?_
  refine r_region ?_
  refine l_x rfl (x_load rfl (ld_blk (S1a.blk 3 rfl) Try.isAgg4 rfl)) ?_
  refine l_nil ?_
  refine r_if rfl (fun hc13 => ?_) (fun hc13 => ?_)
  · skip
    refine r_skip ?_
    refine r_seq ?_
    refine r_block ?_
    refine r_seq ?_
    refine r_region ?_
    refine l_storeq (c' := [_]) S1a 3 rfl rfl rfl rfl rfl Try.sizeOf4 (by simp) rfl ?_
    intro w15 S16 hk17
    refine l_nil ?_
    refine r_seq ?_
    refine r_region ?_
    refine l_x rfl (x_mv rfl) ?_
    refine l_x rfl (x_func rfl rfl) ?_
    refine l_nil ?_
    refine r_block ?_
    refine r_rangeFunc [_] [] S16 rfl rfl Try.call122 ?_
    intro D18 l19 w20 S21 hl22
    have S23 : Own _ _ _ [_, _, _, _, _, _, _] := S21.pick [0, 1, 4, 2, 3, 5, 6] (by decide) rfl
    have S24 := Own.pack (A := [_, _, _]) (L := [_, _, _, _]) S23
    refine (c_steps N va arcs vx x vw wl mo P0 hV hxA hw0 (fun v => by simp only [P0]; omega) bc _ _ _ (fun t r => ∃ c' m', r = pack [blk b7 (tab 1000 c') 89, blk bm [.bool m'] 4, _, _] ∧ Rd1 p c t c' m') (fun t r w1 hR S' => ⟨(S24.back 3 rfl S').blk 0 rfl, hA.le ((S24.back 3 rfl S').old h0 hX), vec_rd ((S24.back 3 rfl S').at 1 rfl), Hw.le ((S24.back 3 rfl S').old h0 hX)⟩) ?_ _ ⟨_, _, rfl, Rd1.start hSh⟩ _ (S24.lend 3 rfl)).mono ?_
    · skip
      rintro t _ s w1 ⟨c', m', rfl, hRd⟩ ⟨s', hin'⟩ hS
      have S25 := hS.open
      have hin : s ∈ stps P0 0 arcs x wl := by rw [hin']; simp
      have hsb := stps_ok hV hin
      have hs0 := step0 hC.red hw0 hin
      have hlo := hRd.1.lo s.src.toNat
      have hhi := hRd.1.hi s.src.toNat
      have hnn := hRd.1.nn s.src.toNat
      refine yl_of_run (S25.obj 3 rfl) rfl (fun c cs => ?_)
      refine r_region ?_
      refine l_alloc S25 rfl Try.zeroValue126 rfl ?_
      intro b29 w26 S27 hl28
      refine l_stores S27 4 rfl rfl rfl rfl (ES.one _) Try.sizeOf126 (by first | exact Nat.le_refl _ | simp) (splice_all rfl) ?_
      intro w30 S31 hk32
      refine l_nil ?_
      refine r_beginRound S31 3 rfl rfl ?_
      intro w33 S34 hk35
      refine r_block ?_
      refine r_seq ?_
      refine r_drawR 8 Try.mixed (by kernel_rfl) ?_
      refine w_x rfl (fun w1 h1 => x_fieldAddr rfl Try.runUnderlying126 rfl Try.sizeOf3 (by decide)) ?_
      refine w_x rfl (fun w1 h1 => x_load rfl (ld_blk ((S34.step h1).blk 4 rfl) Try.isAgg3 rfl)) ?_
      refine w_x rfl (fun w1 h1 => x_indexAddr_array rfl rfl Try.runUnderlying89 Try.sizeOf3 (by omega)) ?_
      refine w_x rfl (fun w1 h1 => x_load rfl (ld_blk ((S34.step h1).blk 0 rfl) Try.isAgg3 (tabs_get rfl (by omega)))) ?_
      refine w_x rfl (fun w1 h1 => x_fieldAddr rfl Try.runUnderlying126 rfl Try.sizeOf3 (by decide)) ?_
      refine w_x rfl (fun w1 h1 => x_load rfl (ld_blk ((S34.step h1).blk 4 rfl) Try.isAgg3 rfl)) ?_
      refine w_x rfl (fun w1 h1 => x_add rfl rfl (by omega)) ?_
      refine w_x rfl (fun w1 h1 => x_as rfl) ?_
      refine w_nil ?_
      intro w36 hl37
      have S38 := S34.step hl37
      refine l_nil ?_
      refine r_seq ?_
      refine r_region ?_
      refine l_x rfl (x_mv rfl) ?_
      refine l_x rfl (x_fieldAddr rfl Try.runUnderlying126 rfl Try.sizeOf3 (by decide)) ?_
      refine l_x rfl (x_load rfl (ld_blk (S38.blk 4 rfl) Try.isAgg3 rfl)) ?_
      refine l_x rfl (x_indexAddr_array rfl rfl Try.runUnderlying89 Try.sizeOf3 (by omega)) ?_
      refine l_x rfl (x_load rfl (ld_blk (S38.blk 0 rfl) Try.isAgg3 (tabs_get rfl (by omega)))) ?_
      refine l_x rfl (x_lss rfl rfl) ?_
      refine l_nil ?_
      refine r_ifd rfl (fun hc29 => ?_) (fun hc29 => ?_)
      · skip
        refine r_seq ?_
        refine r_region ?_
        refine l_x rfl (x_fieldAddr rfl Try.runUnderlying126 rfl Try.sizeOf3 (by decide)) ?_
        refine l_x rfl (x_load rfl (ld_blk (S38.blk 4 rfl) Try.isAgg3 rfl)) ?_
        refine l_x rfl (x_mv rfl) ?_
        refine l_x rfl (x_indexAddr_array rfl rfl Try.runUnderlying89 Try.sizeOf3 (by omega)) ?_
        refine l_storeq S38 0 rfl rfl rfl rfl rfl Try.sizeOf3 (tabs_lt rfl (by omega)) (tabs_set rfl (by omega)) ?_
        intro w39 S40 hk41
        refine l_nil ?_
        refine r_region ?_
        refine l_storeq (c' := [_]) S40 1 rfl rfl rfl rfl rfl Try.sizeOf4 (by simp) rfl ?_
        intro w42 S43 hk44
        refine l_nil ?_
        refine r_inBlock ?_
        refine r_roundEnd S43 3 rfl ?_
        intro w45 S46
        exact ⟨_, rfl, ⟨_, _, rfl, hRd.relax hC.red hw0 hV hin hc29⟩, (S46.take 4).close⟩
      · skip
        refine r_skip ?_
        refine r_inBlock ?_
        refine r_roundEnd S38 3 rfl ?_
        intro w47 S48
        exact ⟨_, rfl, ⟨_, _, rfl, hRd.keep hc29⟩, (S48.take 4).close⟩
    rintro _ w49 ⟨_, ⟨c', m', rfl, hRd⟩, hback50⟩
    have S51 := Own.unpack (A := [_, _, _]) (L := [_, _, _, _]) (S24.back 3 rfl hback50)
    refine r_endRange S51 6 rfl rfl ?_
    intro w52 S53 hk54
    refine r_inBlock ?_
    refine r_inBlock ?_
    refine r_seq ?_
    refine r_region ?_
    refine l_x rfl (x_load rfl (ld_blk (S53.blk 4 rfl) Try.isAgg4 rfl)) ?_
    refine l_nil ?_
    refine r_region ?_
    refine l_alloc S53 rfl Try.zeroValue4 rfl ?_
    intro b58 w55 S56 hl57
    refine l_storeq (c' := [_]) S56 7 rfl rfl rfl rfl rfl Try.sizeOf4 (by simp) rfl ?_
    intro w59 S60 hk61
    refine l_nil ?_
    exact IHa (c', m', b58, D18 :: Ds) _ _ _ (by dsimp only; rw [hc13]; exact hRd.less) ⟨rfl, rfl, rfl, trivial⟩ ⟨hRd.1, hRd.still, ((S60.pick [0, 1, 3, 7, 5, 2] (by decide) rfl).mcons (A := [_, _, _, _]))⟩ rfl
  · skip
    refine r_exit rfl ?_
    refine r_seq ?_
    refine r_region ?_
    refine l_x rfl (x_mv rfl) ?_
    refine l_x rfl (x_nilCheck rfl) ?_
    refine l_x rfl (x_fieldAddr rfl Try.runUnderlying91 rfl Try.sizeOf24 (by decide)) ?_
    refine l_x rfl (x_fieldAddr rfl Try.runUnderlying24 rfl Try.sizeOf3 (by decide)) ?_
    refine l_x rfl (x_load rfl (ld_blk (S1a.blk 0 rfl) Try.isAgg3 rfl)) ?_
    refine l_make EI 0 S1a rfl Try.runUnderlying25 Try.sizeOf3 Try.typeInfo3 Try.zeroValue3 rfl rfl (congrArg (Value.int .i64) (Int.toNat_of_nonneg (by omega)).symm) (congrArg (Value.int .i64) (Int.toNat_of_nonneg (by omega)).symm) (Nat.le_refl _) (by unfold maxLen; omega) (by show _ * 8 ≤ _; omega) ?_
    intro v65 w62 hv66 S63 hl64
    refine l_x rfl (x_as rfl) ?_
    refine l_nil ?_
    refine r_seq ?_
    refine r_seq ?_
    refine r_region ?_
    refine l_x rfl (x_mv rfl) ?_
    refine l_x rfl (x_len (vec_rd (S63.at 5 rfl)) rfl Try.runUnderlying25) ?_
    refine l_x rfl (x_mv rfl) ?_
    refine l_nil ?_
    refine r_block ?_
    refine r_loop (G := Nat) (fun i => N.toNat - i) (fun i => [(3, .pointer (some ⟨b7, 0, none⟩)), (7, v65), (43, .int .i64 i), (42, .int .i64 N)]) (fun i w' => (i ≤ N.toNat) ∧ Own X w w' [blk bc (carC N va vx vw mo P0) 91, vec EI vx x, blk b7 (tab 1000 c) 89, blk bm [.bool m] 4, marksR Ds, vec EI v65 (pre (outp N c) 0 i)]) 0 ⟨rfl, rfl, rfl, (congrArg (Value.int .i64) (by rw [List.length_replicate]; omega)), trivial⟩ ⟨Nat.zero_le _, (by rw [pre_zero, outp_len]; exact S63)⟩ ?_
    rintro i ρ w1b ⟨hi, S1b⟩ IHb
    refine r_seq ?_
    refine r_region ?_
    refine l_x rfl (x_lss rfl rfl) ?_
    refine l_nil ?_
    refine r_seq ?_
    refine r_ifd rfl (fun hc44 => ?_) (fun hc44 => ?_)
    · skip
      have hil : i < N.toNat := by omega
      have hlo := hSh.lo ((i : Nat) : Int).toNat
      have hhi := hSh.hi ((i : Nat) : Int).toNat
      have hnn := hSh.nn ((i : Nat) : Int).toNat
      refine r_skip ?_
      refine r_seq ?_
      refine r_block ?_
      refine r_seq ?_
      refine r_region ?_
      refine l_x rfl (x_mv rfl) ?_
      refine l_x rfl (x_as rfl) ?_
      refine l_nil ?_
      refine r_region ?_
      refine l_x rfl (x_mv rfl) ?_
      refine l_x rfl (x_mv rfl) ?_
      refine l_x rfl (x_mv rfl) ?_
      refine l_x rfl (x_indexAddr_array rfl rfl Try.runUnderlying89 Try.sizeOf3 (by omega)) ?_
      refine l_x rfl (x_load rfl (ld_blk (S1b.blk 2 rfl) Try.isAgg3 (tabs_get rfl (by omega)))) ?_
      refine l_x rfl (x_neg rfl (by omega)) ?_
      refine l_index EI rfl (vec_rd (S1b.at 5 rfl)) rfl rfl Try.runUnderlying25 Try.sizeOf3 (by omega) (pre_get (by rw [outp_len]; omega)) ?_
      intro b67 o68 hat69 row70
      refine l_storevi (f := 0) S1b 5 rfl rfl hat69 rfl rfl Try.sizeOf3 (pre_get (by rw [outp_len]; omega)) (by decide) rfl ?_
      intro w71 S72 hk73
      refine l_nil ?_
      refine r_inBlock ?_
      refine r_region ?_
      refine l_x rfl (x_add rfl rfl (by omega)) ?_
      refine l_x rfl (x_mv rfl) ?_
      refine l_nil ?_
      exact IHb (i + 1) _ _ (by omega) ⟨rfl, rfl, rfl, rfl, trivial⟩ ⟨by omega, (by rw [← pre_step (outp_get (by omega))]; exact S72)⟩
    · skip
      have hie : i = N.toNat := by omega
      subst hie
      refine r_exit rfl ?_
      refine r_seq ?_
      refine r_region ?_
      refine l_x rfl (x_mv rfl) ?_
      refine l_x rfl (x_as rfl) ?_
      refine l_nil ?_
      refine r_retL rfl ?_
      refine leave_marks (A := [_, _, _, _, _]) Ds (S1b.pick [0, 1, 2, 3, 5, 4] (by decide) rfl) ?_
      intro w74 S75
      refine leave_done (rs := [.tmp 2]) [_] Try.func73 rfl ⟨rfl, trivial⟩ ?_
      exact ⟨_, by have hS := S75; rw [show pre (outp N c) 0 N.toNat = outp N c from by rw [← outp_len N c]; exact pre_full] at hS; exact hS.pick [0, 1, 4] (by decide) rfl, hSh.pts hN1, (hSt hc13).slack hV hC.bds⟩

end Go.Proofs
