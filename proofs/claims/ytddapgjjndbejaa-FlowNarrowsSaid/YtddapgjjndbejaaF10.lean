/-
  Contracts of functions of the program: each by symbolic execution of its text.
-/
import Derived.Test.YtddapgjjndbejaaF9
namespace Go.Proofs
open Go Go.Vk Go.Vk.Flow

set_option maxHeartbeats 1000000 in
/-- (*couchant/flow.carried).nearest. -/
theorem c_nearest (N : Int) (va : Value) (arcs : List Arc) (vx : Value) (x : List Int) (vw : Value) (wl : List Int) (m p : Nat → Int) (hV : Valid N arcs) (hx0 : Amts arcs x) (hw0 : Wts arcs wl) (hp : ∀ v, -10000000 ≤ p v ∧ p v ≤ 10000000) (bc : Nat) (w : World) (hq : CarR w bc N va arcs vx x vw wl m p) (hc : ∀ s, s ∈ stps p 0 arcs x wl → 0 ≤ s.cost ∧ s.cost ≤ 2000000) :
    Cl Try.prog 135 #[.pointer (some ⟨bc, 0, none⟩)] w fun v w' => ∃ vc vl, v = .tuple #[vc, vl] ∧ ∃ cost last rk, Own nob w w' [vec EI vc cost, vec ES vl last] ∧ Nearest N.toNat (stps p 0 arcs x wl) m cost last rk := by
  have hNx := hV.max
  have hN1 := hV.pos
  have hLx := hV.len
  have hfar : far = 1152921504606846976 := rfl
  refine fn_of_run (args := [_]) 136 Try.func135 rfl rfl rfl fun cs => ?_
  have S := Own.start (X := nob) w
  refine r_seq ?_
  refine r_region ?_
  refine l_x rfl (x_as rfl) ?_
  refine l_x rfl (x_as rfl) ?_
  refine l_nil ?_
  refine r_seq ?_
  refine r_region ?_
  refine l_x rfl (x_mv rfl) ?_
  refine l_call [] [] [_] rfl rfl Try.call130 rfl (c_by N va arcs vx x vw wl m p hV hx0 hw0 hp bc _ (hq.le S.le)) ?_
  rintro v1 w2 ⟨hs, hlen, h6⟩
  have S3 := S.join h6
  refine l_x rfl (x_as rfl) ?_
  refine l_nil ?_
  refine r_seq ?_
  refine r_drawE 21 nob Try.mixed (by kernel_rfl) ?_
  intro w7 hl8
  have S9 := S3.step hl8
  refine e_exact 1 _ (by kernel_rfl) rfl rfl (by kernel_rfl) rfl (ex_x rfl (fun w1 h1 => x_mv rfl)) ?_
  refine e_exact 2 _ (by kernel_rfl) rfl rfl (by kernel_rfl) rfl (ex_x rfl (fun w1 h1 => x_nilCheck rfl)) ?_
  refine e_exact 3 _ (by kernel_rfl) rfl rfl (by kernel_rfl) rfl (ex_x rfl (fun w1 h1 => x_fieldAddr rfl Try.runUnderlying91 rfl Try.sizeOf24 (by decide))) ?_
  refine e_exact 4 _ (by kernel_rfl) rfl rfl (by kernel_rfl) rfl (ex_x rfl (fun w1 h1 => x_fieldAddr rfl Try.runUnderlying24 rfl Try.sizeOf3 (by decide))) ?_
  refine e_exact 5 _ (by kernel_rfl) rfl rfl (by kernel_rfl) rfl (ex_x rfl (fun w1 h1 => x_load rfl (ld_blk (hq.le (S9.step h1).le).blk Try.isAgg3 rfl))) ?_
  refine e_exact 7 _ (by kernel_rfl) rfl rfl (by kernel_rfl) rfl (ex_x rfl (fun w1 h1 => x_mv rfl)) ?_
  refine e_exact 8 _ (by kernel_rfl) rfl rfl (by kernel_rfl) rfl (ex_x rfl (fun w1 h1 => x_nilCheck rfl)) ?_
  refine e_exact 9 _ (by kernel_rfl) rfl rfl (by kernel_rfl) rfl (ex_x rfl (fun w1 h1 => x_fieldAddr rfl Try.runUnderlying91 rfl Try.sizeOf24 (by decide))) ?_
  refine e_exact 10 _ (by kernel_rfl) rfl rfl (by kernel_rfl) rfl (ex_x rfl (fun w1 h1 => x_fieldAddr rfl Try.runUnderlying24 rfl Try.sizeOf3 (by decide))) ?_
  refine e_exact 11 _ (by kernel_rfl) rfl rfl (by kernel_rfl) rfl (ex_x rfl (fun w1 h1 => x_load rfl (ld_blk (hq.le (S9.step h1).le).blk Try.isAgg3 rfl))) ?_
  refine e_exact 13 _ (by kernel_rfl) rfl rfl (by kernel_rfl) rfl (ex_x rfl (fun w1 h1 => x_mv rfl)) ?_
  refine e_exact 14 _ (by kernel_rfl) rfl rfl (by kernel_rfl) rfl (ex_x rfl (fun w1 h1 => x_nilCheck rfl)) ?_
  refine e_exact 15 _ (by kernel_rfl) rfl rfl (by kernel_rfl) rfl (ex_x rfl (fun w1 h1 => x_fieldAddr rfl Try.runUnderlying91 rfl Try.sizeOf24 (by decide))) ?_
  refine e_exact 16 _ (by kernel_rfl) rfl rfl (by kernel_rfl) rfl (ex_x rfl (fun w1 h1 => x_fieldAddr rfl Try.runUnderlying24 rfl Try.sizeOf3 (by decide))) ?_
  refine e_exact 17 _ (by kernel_rfl) rfl rfl (by kernel_rfl) rfl (ex_x rfl (fun w1 h1 => x_load rfl (ld_blk (hq.le (S9.step h1).le).blk Try.isAgg3 rfl))) ?_
  refine e_cut (G := Value × Value × Value) (fun g => [(0, .pointer (some ⟨bc, 0, none⟩)), (4, v1), (5, g.1), (6, g.2.1), (34, g.2.2)]) (fun g w' => Own nob w w' [vec EH v1 hs, pack (nest ES hs (byl N (stps p 0 arcs x wl))), vec EI g.1 (List.replicate N.toNat 1152921504606846976), vec ES g.2.1 (List.replicate N.toNat ⟨0, false, 0, 0, 0⟩), vec EB g.2.2 (List.replicate N.toNat false)]) ?_ (fun HK => ?_)
  · rintro ⟨vc, vl, vd⟩ ρ w1 S1
    refine l_x rfl (x_as rfl) ?_
    refine l_nil ?_
    refine r_seq ?_
    refine r_seq ?_
    refine r_region ?_
    refine l_x rfl (x_mv rfl) ?_
    refine l_x rfl (x_nilCheck rfl) ?_
    refine l_x rfl (x_fieldAddr rfl Try.runUnderlying91 rfl Try.sizeOf24 (by decide)) ?_
    refine l_x rfl (x_fieldAddr rfl Try.runUnderlying24 rfl Try.sizeOf3 (by decide)) ?_
    refine l_x rfl (x_load rfl (ld_blk (hq.le S1.le).blk Try.isAgg3 rfl)) ?_
    refine l_x rfl (x_mv rfl) ?_
    refine l_nil ?_
    refine r_block ?_
    refine r_loop (G := Nat) (fun i => N.toNat - i) (fun i => [(0, .pointer (some ⟨bc, 0, none⟩)), (4, v1), (5, vc), (6, vl), (7, vd), (40, .int .i64 i), (39, .int .i64 N)]) (fun i w' => (i ≤ N.toNat) ∧ Own nob w w' [vec EH v1 hs, pack (nest ES hs (byl N (stps p 0 arcs x wl))), vec EI vc (cost0 N.toNat m i), vec ES vl (last0 N.toNat m i), vec EB vd (List.replicate N.toNat false)]) 0 ⟨rfl, rfl, rfl, rfl, rfl, rfl, rfl, trivial⟩ ⟨Nat.zero_le _, (by rw [cost0_zero, last0_zero]; exact S1)⟩ ?_
    rintro i ρ w1a ⟨hi, S1a⟩ IHa
    refine r_seq ?_
    refine r_region ?_
    refine l_x rfl (x_lss rfl rfl) ?_
    refine l_nil ?_
    refine r_seq ?_
    refine r_ifd rfl (fun hc41 => ?_) (fun hc41 => ?_)
    · skip
      have hil : i < N.toNat := by omega
      refine r_skip ?_
      refine r_seq ?_
      refine r_block ?_
      refine r_seq ?_
      refine r_region ?_
      refine l_x rfl (x_mv rfl) ?_
      refine l_x rfl (x_as rfl) ?_
      refine l_nil ?_
      refine r_seq ?_
      refine r_region ?_
      refine l_x rfl (x_mv rfl) ?_
      refine l_x rfl (x_mv rfl) ?_
      refine l_x rfl (x_nilCheck rfl) ?_
      refine l_x rfl (x_fieldAddr rfl Try.runUnderlying91 rfl Try.sizeOf89 (by decide)) ?_
      refine l_x rfl (x_indexAddr_array rfl rfl Try.runUnderlying89 Try.sizeOf3 (by omega)) ?_
      refine l_x rfl (x_load rfl (ld_blk (hq.le S1a.le).blk Try.isAgg3 (carm_get rfl (by omega)))) ?_
      refine l_x rfl (x_gtr rfl rfl) ?_
      refine l_nil ?_
      refine r_ifd rfl (fun hc49 => ?_) (fun hc49 => ?_)
      · skip
        refine r_seq ?_
        refine r_region ?_
        refine l_x rfl (x_mv rfl) ?_
        refine l_x rfl (x_mv rfl) ?_
        refine l_index EI rfl (vec_rd (S1a.at 2 rfl)) rfl rfl Try.runUnderlying25 Try.sizeOf3 (by omega) (cost0_get (by omega) _) ?_
        intro b10 o11 hat12 row13
        refine l_storevi (f := 0) S1a 2 rfl rfl hat12 rfl rfl Try.sizeOf3 (cost0_get (by omega) _) (by decide) rfl ?_
        intro w14 S15 hk16
        refine l_nil ?_
        refine r_region ?_
        refine l_x rfl (x_mv rfl) ?_
        refine l_x rfl (x_mv rfl) ?_
        refine l_index ES rfl (vec_rd (S15.at 3 rfl)) rfl rfl Try.runUnderlying135 Try.sizeOf126 (by omega) (last0_fresh hil) ?_
        intro b17 o18 hat19 row20
        refine l_x rfl (x_fieldAddr rfl Try.runUnderlying126 rfl Try.sizeOf3 (by decide)) ?_
        refine l_storevi (a' := ⟨-1, false, 0, 0, 0⟩) (f := 0) S15 3 rfl rfl hat19 rfl rfl Try.sizeOf3 (last0_fresh hil) (by decide) rfl ?_
        intro w21 S22 hk23
        refine l_nil ?_
        refine r_inBlock ?_
        refine r_region ?_
        refine l_x rfl (x_add rfl rfl (by omega)) ?_
        refine l_x rfl (x_mv rfl) ?_
        refine l_nil ?_
        exact IHa (i + 1) _ _ (by omega) ⟨rfl, rfl, rfl, rfl, rfl, rfl, rfl, trivial⟩ ⟨by omega, (by rw [← cost0_set (i := i) (by omega) hc49, ← last0_set (i := i) (by omega) hc49]; exact S22.take 5)⟩
      · skip
        refine r_skip ?_
        refine r_inBlock ?_
        refine r_region ?_
        refine l_x rfl (x_add rfl rfl (by omega)) ?_
        refine l_x rfl (x_mv rfl) ?_
        refine l_nil ?_
        exact IHa (i + 1) _ _ (by omega) ⟨rfl, rfl, rfl, rfl, rfl, rfl, rfl, trivial⟩ ⟨by omega, (by rw [← cost0_same (i := i) hc49, ← last0_same (i := i) hc49]; exact S1a.take 5)⟩
    · skip
      have hie : i = N.toNat := by omega
      subst hie
      refine r_exit rfl ?_
      refine r_block ?_
      refine r_loop (G := List Int × List Stp × List Bool × Nat × (Nat → Nat)) (fun ⟨cost, last, dn, k, rk⟩ => N.toNat - k) (fun ⟨cost, last, dn, k, rk⟩ => [(0, .pointer (some ⟨bc, 0, none⟩)), (4, v1), (5, vc), (6, vl), (7, vd)]) (fun ⟨cost, last, dn, k, rk⟩ w' => (Dj N.toNat (stps p 0 arcs x wl) m cost last dn k rk fun _ _ => True) ∧ Own nob w w' [vec EH v1 hs, pack (nest ES hs (byl N (stps p 0 arcs x wl))), vec EI vc cost, vec ES vl last, vec EB vd dn]) (cost0 N.toNat m N.toNat, last0 N.toNat m N.toNat, List.replicate N.toNat false, 0, fun _ => 0) ⟨rfl, rfl, rfl, rfl, rfl, trivial⟩ ⟨Dj.start .., (S1a.take 5)⟩ ?_
      rintro ⟨cost, last, dn, k, rk⟩ ρ w1b ⟨hJ, S1b⟩ IHb
      refine r_block ?_
      refine r_seq ?_
      refine r_region ?_
      refine l_x rfl (x_as rfl) ?_
      refine l_nil ?_
      refine r_seq ?_
      refine r_seq ?_
      refine r_region ?_
      refine l_x rfl (x_mv rfl) ?_
      refine l_x rfl (x_nilCheck rfl) ?_
      refine l_x rfl (x_fieldAddr rfl Try.runUnderlying91 rfl Try.sizeOf24 (by decide)) ?_
      refine l_x rfl (x_fieldAddr rfl Try.runUnderlying24 rfl Try.sizeOf3 (by decide)) ?_
      refine l_x rfl (x_load rfl (ld_blk (hq.le S1b.le).blk Try.isAgg3 rfl)) ?_
      refine l_x rfl (x_mv rfl) ?_
      refine l_nil ?_
      refine r_block ?_
      refine r_loop (G := Nat × Int) (fun ⟨i, v⟩ => N.toNat - i) (fun ⟨i, v⟩ => [(0, .pointer (some ⟨bc, 0, none⟩)), (4, v1), (5, vc), (6, vl), (7, vd), (9, .int .i64 v), (63, .int .i64 i), (62, .int .i64 N)]) (fun ⟨i, v⟩ w' => (i ≤ N.toNat) ∧ (Mn cost dn i v) ∧ Own nob w w' [vec EH v1 hs, pack (nest ES hs (byl N (stps p 0 arcs x wl))), vec EI vc cost, vec ES vl last, vec EB vd dn]) (0, -1) ⟨rfl, rfl, rfl, rfl, rfl, rfl, rfl, rfl, trivial⟩ ⟨Nat.zero_le _, Mn.zero, (S1b.take 5)⟩ ?_
      rintro ⟨i, v⟩ ρ w1c ⟨hi, hM, S1c⟩ IHc
      refine r_seq ?_
      refine r_region ?_
      refine l_x rfl (x_lss rfl rfl) ?_
      refine l_nil ?_
      refine r_seq ?_
      refine r_ifd rfl (fun hc64 => ?_) (fun hc64 => ?_)
      · skip
        have hil : i < N.toNat := by omega
        obtain ⟨d, hd⟩ : ∃ d, dn[i]? = some d := ⟨_, List.getElem?_eq_getElem (by rw [hJ.ld]; omega)⟩
        refine r_skip ?_
        refine r_seq ?_
        refine r_block ?_
        refine r_seq ?_
        refine r_region ?_
        refine l_x rfl (x_mv rfl) ?_
        refine l_x rfl (x_as rfl) ?_
        refine l_nil ?_
        refine r_seq ?_
        refine r_drawR 27 Try.mixed (by kernel_rfl) ?_
        refine w_x rfl (fun w1 h1 => x_mv rfl) ?_
        refine w_x rfl (fun w1 h1 => x_mv rfl) ?_
        refine w_index EB rfl (vec_rd (S1c.at 4 rfl)) rfl rfl Try.runUnderlying101 Try.sizeOf4 (by omega) hd ?_
        intro b24 o25 hat26 row27
        refine w_x rfl (fun w1 h1 => x_load rfl (ld_cell Try.isAgg4 ((row27.le h1) 0 _ rfl))) ?_
        refine w_x rfl (fun w1 h1 => x_not rfl) ?_
        refine w_x rfl (fun w1 h1 => x_mv rfl) ?_
        refine w_split (d := 71) rfl (fun hg71 => ?_) (fun hg71 => ?_)
        · skip
          have hd0 : dn[i]? = some false := by rw [hd]; simpa using hg71
          refine w_x rfl (fun w1 h1 => x_mv rfl) ?_
          refine w_x rfl (fun w1 h1 => x_mv rfl) ?_
          refine w_index EI rfl (vec_rd (S1c.at 2 rfl)) rfl rfl Try.runUnderlying25 Try.sizeOf3 (by omega) (nth_get (by have := hJ.lc; omega)) ?_
          intro b28 o29 hat30 row31
          refine w_x rfl (fun w1 h1 => x_load rfl (ld_cell Try.isAgg3 ((row31.le h1) 0 _ rfl))) ?_
          refine w_x rfl (fun w1 h1 => x_lss rfl rfl) ?_
          refine w_x rfl (fun w1 h1 => x_pick_t rfl rfl) ?_
          refine w_x rfl (fun w1 h1 => x_mv rfl) ?_
          refine w_splitd (d := 78) rfl (fun hg78 => ?_) (fun hg78 => ?_)
          · skip
            refine w_x rfl (fun w1 h1 => x_mv rfl) ?_
            refine w_x rfl (fun w1 h1 => x_lss rfl rfl) ?_
            refine w_x rfl (fun w1 h1 => x_mv rfl) ?_
            refine w_splitd (d := 81) rfl (fun hg81 => ?_) (fun hg81 => ?_)
            · skip
              refine w_pass rfl ?_
              refine w_pass rfl ?_
              refine w_pass rfl ?_
              refine w_pass rfl ?_
              refine w_pass rfl ?_
              refine w_pass rfl ?_
              refine w_pass rfl ?_
              refine w_pass rfl ?_
              refine w_pass rfl ?_
              refine w_x rfl (fun w1 h1 => x_pick_t rfl rfl) ?_
              refine w_x rfl (fun w1 h1 => x_pick_t rfl rfl) ?_
              refine w_nil ?_
              intro w32 hl33
              have S34 := S1c.step hl33
              refine l_nil ?_
              refine r_true rfl ?_
              refine r_region ?_
              refine l_x rfl (x_mv rfl) ?_
              refine l_x rfl (x_as rfl) ?_
              refine l_nil ?_
              refine r_inBlock ?_
              refine r_region ?_
              refine l_x rfl (x_add rfl rfl (by omega)) ?_
              refine l_x rfl (x_mv rfl) ?_
              refine l_nil ?_
              exact IHc (i + 1, (i : Int)) _ _ (by dsimp only; omega) ⟨rfl, rfl, rfl, rfl, rfl, rfl, rfl, rfl, trivial⟩ ⟨by omega, hM.take1 hg81 hd0 hg78, (S34.take 5)⟩
            · skip
              refine w_x rfl (fun w1 h1 => x_mv rfl) ?_
              refine w_x rfl (fun w1 h1 => x_mv rfl) ?_
              refine w_index EI rfl (vec_rd (S1c.at 2 rfl)) rfl rfl Try.runUnderlying25 Try.sizeOf3 (by omega) (nth_get (by have := hJ.lc; omega)) ?_
              intro b35 o36 hat37 row38
              refine w_x rfl (fun w1 h1 => x_load rfl (ld_cell Try.isAgg3 ((row38.le h1) 0 _ rfl))) ?_
              refine w_x rfl (fun w1 h1 => x_mv rfl) ?_
              refine w_x rfl (fun w1 h1 => x_mv rfl) ?_
              refine w_index EI rfl (vec_rd (S1c.at 2 rfl)) rfl rfl Try.runUnderlying25 Try.sizeOf3 (by omega) (nth_get (by have := hJ.lc; have := hM.lt; omega)) ?_
              intro b39 o40 hat41 row42
              refine w_x rfl (fun w1 h1 => x_load rfl (ld_cell Try.isAgg3 ((row42.le h1) 0 _ rfl))) ?_
              refine w_x rfl (fun w1 h1 => x_lss rfl rfl) ?_
              refine w_x rfl (fun w1 h1 => x_pick_f rfl rfl) ?_
              refine w_x rfl (fun w1 h1 => x_pick_t rfl rfl) ?_
              refine w_nil ?_
              intro w43 hl44
              have S45 := S1c.step hl44
              refine l_nil ?_
              refine r_ifd rfl (fun hc92 => ?_) (fun hc92 => ?_)
              · skip
                refine r_region ?_
                refine l_x rfl (x_mv rfl) ?_
                refine l_x rfl (x_as rfl) ?_
                refine l_nil ?_
                refine r_inBlock ?_
                refine r_region ?_
                refine l_x rfl (x_add rfl rfl (by omega)) ?_
                refine l_x rfl (x_mv rfl) ?_
                refine l_nil ?_
                exact IHc (i + 1, (i : Int)) _ _ (by dsimp only; omega) ⟨rfl, rfl, rfl, rfl, rfl, rfl, rfl, rfl, trivial⟩ ⟨by omega, hM.take2 hg81 hd0 hg78 hc92, (S45.take 5)⟩
              · skip
                refine r_skip ?_
                refine r_inBlock ?_
                refine r_region ?_
                refine l_x rfl (x_add rfl rfl (by omega)) ?_
                refine l_x rfl (x_mv rfl) ?_
                refine l_nil ?_
                exact IHc (i + 1, v) _ _ (by dsimp only; omega) ⟨rfl, rfl, rfl, rfl, rfl, rfl, rfl, rfl, trivial⟩ ⟨by omega, hM.keep hg81 hc92, (S45.take 5)⟩
          · skip
            refine w_pass rfl ?_
            refine w_pass rfl ?_
            refine w_pass rfl ?_
            refine w_pass rfl ?_
            refine w_pass rfl ?_
            refine w_pass rfl ?_
            refine w_pass rfl ?_
            refine w_pass rfl ?_
            refine w_pass rfl ?_
            refine w_pass rfl ?_
            refine w_pass rfl ?_
            refine w_pass rfl ?_
            refine w_pass rfl ?_
            refine w_x rfl (fun w1 h1 => x_pick_f rfl rfl) ?_
            refine w_nil ?_
            intro w46 hl47
            have S48 := S1c.step hl47
            refine l_nil ?_
            refine r_false rfl ?_
            refine r_skip ?_
            refine r_inBlock ?_
            refine r_region ?_
            refine l_x rfl (x_add rfl rfl (by omega)) ?_
            refine l_x rfl (x_mv rfl) ?_
            refine l_nil ?_
            exact IHc (i + 1, v) _ _ (by dsimp only; omega) ⟨rfl, rfl, rfl, rfl, rfl, rfl, rfl, rfl, trivial⟩ ⟨by omega, hM.skipF hg78, (S48.take 5)⟩
        · skip
          have hd1 : dn[i]? = some true := by rw [hd]; simpa using hg71
          refine w_pass rfl ?_
          refine w_pass rfl ?_
          refine w_pass rfl ?_
          refine w_pass rfl ?_
          refine w_pass rfl ?_
          refine w_x rfl (fun w1 h1 => x_pick_f rfl rfl) ?_
          refine w_x rfl (fun w1 h1 => x_mv rfl) ?_
          refine w_pass rfl ?_
          refine w_pass rfl ?_
          refine w_pass rfl ?_
          refine w_pass rfl ?_
          refine w_pass rfl ?_
          refine w_pass rfl ?_
          refine w_pass rfl ?_
          refine w_pass rfl ?_
          refine w_pass rfl ?_
          refine w_pass rfl ?_
          refine w_pass rfl ?_
          refine w_pass rfl ?_
          refine w_pass rfl ?_
          refine w_x rfl (fun w1 h1 => x_pick_f rfl rfl) ?_
          refine w_nil ?_
          intro w49 hl50
          have S51 := S1c.step hl50
          refine l_nil ?_
          refine r_false rfl ?_
          refine r_skip ?_
          refine r_inBlock ?_
          refine r_region ?_
          refine l_x rfl (x_add rfl rfl (by omega)) ?_
          refine l_x rfl (x_mv rfl) ?_
          refine l_nil ?_
          exact IHc (i + 1, v) _ _ (by dsimp only; omega) ⟨rfl, rfl, rfl, rfl, rfl, rfl, rfl, rfl, trivial⟩ ⟨by omega, hM.skipD hd1, (S51.take 5)⟩
      · skip
        have hie : i = N.toNat := by omega
        subst hie
        refine r_exit rfl ?_
        refine r_seq ?_
        refine r_seq ?_
        refine r_region ?_
        refine l_x rfl (x_mv rfl) ?_
        refine l_x rfl (x_lss rfl rfl) ?_
        refine l_nil ?_
        refine r_ifd rfl (fun hc96 => ?_) (fun hc96 => ?_)
        · skip
          refine r_seq ?_
          refine r_region ?_
          refine l_x rfl (x_mv rfl) ?_
          refine l_x rfl (x_mv rfl) ?_
          refine l_x rfl (x_as rfl) ?_
          refine l_x rfl (x_as rfl) ?_
          refine l_nil ?_
          refine r_ret (rs := [.tmp 2, .tmp 3]) [_, _] Try.func135 rfl ⟨rfl, rfl, trivial⟩ ?_
          exact ⟨_, _, rfl, cost, last, rk, S1c.pick [2, 3] (by decide) rfl, hJ.done (by omega) (fun s hs => by have := stps_ok hV hs; omega) (fun u hu hnd => hM.elim (fun h => h.2 u hu hnd) (fun ⟨v0, h, _⟩ => by omega))⟩
        · skip
          obtain ⟨v0, rfl, hv0n, hdv, hvf, hvm⟩ := hM.resolve_left (fun h => by omega)
          obtain ⟨h0, hh⟩ : ∃ h0, hs[v0]? = some h0 := ⟨_, List.getElem?_eq_getElem (by omega)⟩
          have hPk := hJ.pick hv0n hdv hvf hvm
          have hv0 : isD (dn.set v0 true) v0 := (isD_set (List.getElem?_eq_some_iff.1 hdv).1).2 (.inl rfl)
          have hcnt := count_lt hdv
          have hJc := hJ.cnt
          have hJl := hJ.ld
          obtain ⟨L0, hL0⟩ : ∃ L0, L0 = ((stps p 0 arcs x wl).filter fun s => decide (s.src = (v0 : Int))) := ⟨_, rfl⟩
          have hL0n : L0.length ≤ 8000 := by have h1 := List.length_filter_le (fun s : Stp => decide (s.src = (v0 : Int))) (stps p 0 arcs x wl); have h2 := stps_len p 0 arcs x wl; rw [hL0]; omega
          refine r_skip ?_
          refine r_seq ?_
          refine r_region ?_
          refine l_x rfl (x_mv rfl) ?_
          refine l_x rfl (x_mv rfl) ?_
          refine l_index EB rfl (vec_rd (S1c.at 4 rfl)) rfl rfl Try.runUnderlying101 Try.sizeOf4 (by omega) hdv ?_
          intro b52 o53 hat54 row55
          refine l_storevb (f := 0) S1c 4 rfl rfl hat54 rfl rfl Try.sizeOf4 hdv (by decide) rfl ?_
          intro w56 S57 hk58
          refine l_nil ?_
          refine r_seq ?_
          refine r_region ?_
          refine l_x rfl (x_mv rfl) ?_
          refine l_x rfl (x_mv rfl) ?_
          refine l_index EH rfl (vec_rd (S57.at 0 rfl)) rfl rfl Try.runUnderlying132 Try.sizeOf135 (by omega) hh ?_
          intro b59 o60 hat61 row62
          refine l_x rfl (x_load rfl (ld_cell Try.isAgg135 (row62 0 _ rfl))) ?_
          refine l_x rfl (x_len (nest_rd (S57.at 1 rfl) hh (byl_get (by omega))) rfl Try.runUnderlying135) ?_
          refine l_x rfl (x_mv rfl) ?_
          refine l_nil ?_
          refine r_block ?_
          refine r_loop (G := Nat × List Int × List Stp) (fun ⟨i, cost1, last1⟩ => L0.length - i) (fun ⟨i, cost1, last1⟩ => [(0, .pointer (some ⟨bc, 0, none⟩)), (4, v1), (5, vc), (6, vl), (7, vd), (9, .int .i64 v0), (105, hv h0), (107, .int .i64 i), (106, .int .i64 L0.length)]) (fun ⟨i, cost1, last1⟩ w' => (i ≤ L0.length) ∧ (Dj N.toNat (stps p 0 arcs x wl) m cost1 last1 (dn.set v0 true) (k + 1) (fun u => if u = v0 then k else rk u) fun u t => u ≠ v0 ∨ t ∈ L0.take i) ∧ (Tp cost1 (dn.set v0 true) v0) ∧ Own nob w w' [vec EH v1 hs, pack (nest ES hs (byl N (stps p 0 arcs x wl))), vec EI vc cost1, vec ES vl last1, vec EB vd (dn.set v0 true)]) (0, cost, last) ⟨rfl, rfl, rfl, rfl, rfl, rfl, rfl, rfl, (congrArg (fun l : List Stp => Value.int .i64 (l.length : Int)) hL0.symm), trivial⟩ ⟨Nat.zero_le _, hPk.1.more (fun u t _ _ hq => hq.resolve_right (by simp)), hPk.2, (S57.take 5)⟩ ?_
          rintro ⟨i, cost1, last1⟩ ρ w1d ⟨hi, hD, htop, S1d⟩ IHd
          refine r_seq ?_
          refine r_region ?_
          refine l_x rfl (x_lss rfl rfl) ?_
          refine l_nil ?_
          refine r_seq ?_
          refine r_ifd rfl (fun hc108 => ?_) (fun hc108 => ?_)
          · skip
            have hil : i < L0.length := by omega
            obtain ⟨s, hs⟩ : ∃ s, L0[i]? = some s := ⟨_, List.getElem?_eq_getElem (by omega)⟩
            have hsf : s ∈ L0 := List.mem_of_getElem? hs
            have hsm : s ∈ stps p 0 arcs x wl := by rw [hL0] at hsf; exact (List.mem_filter.1 hsf).1
            have hsv : s.src = (v0 : Int) := by rw [hL0] at hsf; simpa using (List.mem_filter.1 hsf).2
            have hsb := stps_ok hV hsm
            have hsc := hc s hsm
            have hn1 := hD.nonneg v0 (by omega)
            have hn3 : nth cost1 ((v0 : Nat) : Int).toNat = nth cost1 v0 := rfl
            have hn2 := (hD.bd v0 (by omega) (hD.ofin v0 hv0)).1
            obtain ⟨tl, hll⟩ : ∃ tl, last1[s.dst.toNat]? = some tl := ⟨_, List.getElem?_eq_getElem (by rw [hD.ll]; omega)⟩
            refine r_skip ?_
            refine r_seq ?_
            refine r_block ?_
            refine r_seq ?_
            refine r_region ?_
            refine l_index ES rfl (by rw [hL0]; exact nest_rd (S1d.at 1 rfl) hh (byl_get (by omega))) rfl rfl Try.runUnderlying135 Try.sizeOf126 (by omega) hs ?_
            intro b63 o64 hat65 row66
            refine l_x rfl (x_load rfl (ld_row Try.isAgg126 Try.sizeOf126 rfl row66)) ?_
            refine l_alloc S1d rfl Try.zeroValue126 rfl ?_
            intro b70 w67 S68 hl69
            refine l_stores S68 5 rfl rfl rfl rfl (ES.one _) Try.sizeOf126 (by first | exact Nat.le_refl _ | simp) (splice_all rfl) ?_
            intro w71 S72 hk73
            refine l_nil ?_
            refine r_seq ?_
            refine r_drawR 8 Try.mixed (by kernel_rfl) ?_
            refine w_x rfl (fun w1 h1 => x_mv rfl) ?_
            refine w_x rfl (fun w1 h1 => x_mv rfl) ?_
            refine w_index EI rfl (vec_rd (S72.at 2 rfl)) rfl rfl Try.runUnderlying25 Try.sizeOf3 (by omega) (nth_get (by have := hD.lc; omega)) ?_
            intro b74 o75 hat76 row77
            refine w_x rfl (fun w1 h1 => x_load rfl (ld_cell Try.isAgg3 ((row77.le h1) 0 _ rfl))) ?_
            refine w_x rfl (fun w1 h1 => x_fieldAddr rfl Try.runUnderlying126 rfl Try.sizeOf3 (by decide)) ?_
            refine w_x rfl (fun w1 h1 => x_load rfl (ld_blk ((S72.step h1).blk 5 rfl) Try.isAgg3 rfl)) ?_
            refine w_x rfl (fun w1 h1 => x_add rfl rfl (by omega)) ?_
            refine w_x rfl (fun w1 h1 => x_as rfl) ?_
            refine w_nil ?_
            intro w78 hl79
            have S80 := S72.step hl79
            refine l_nil ?_
            refine r_seq ?_
            refine r_region ?_
            refine l_x rfl (x_mv rfl) ?_
            refine l_x rfl (x_mv rfl) ?_
            refine l_x rfl (x_fieldAddr rfl Try.runUnderlying126 rfl Try.sizeOf3 (by decide)) ?_
            refine l_x rfl (x_load rfl (ld_blk (S80.blk 5 rfl) Try.isAgg3 rfl)) ?_
            refine l_index EI rfl (vec_rd (S80.at 2 rfl)) rfl rfl Try.runUnderlying25 Try.sizeOf3 (by omega) (nth_get (by have := hD.lc; omega)) ?_
            intro b81 o82 hat83 row84
            refine l_x rfl (x_load rfl (ld_cell Try.isAgg3 (row84 0 _ rfl))) ?_
            refine l_x rfl (x_lss rfl rfl) ?_
            refine l_nil ?_
            refine r_ifd rfl (fun hc124 => ?_) (fun hc124 => ?_)
            · skip
              refine r_drawE 10 (Rsc.fp (vec EI vc cost1)) Try.mixed (by kernel_rfl) ?_
              intro w85 hl86
              have S87 := S80.step hl86
              refine e_exact 0 _ (by kernel_rfl) rfl rfl (by kernel_rfl) rfl (ex_x rfl (fun w1 h1 => x_mv rfl)) ?_
              refine e_exact 1 _ (by kernel_rfl) rfl rfl (by kernel_rfl) rfl (ex_x rfl (fun w1 h1 => x_fieldAddr rfl Try.runUnderlying126 rfl Try.sizeOf3 (by decide))) ?_
              refine e_exact 2 _ (by kernel_rfl) rfl rfl (by kernel_rfl) rfl (ex_x rfl (fun w1 h1 => x_load rfl (ld_blk ((S87.under 2 rfl h1).blk 5 rfl) Try.isAgg3 rfl))) ?_
              refine e_exact 3 _ (by kernel_rfl) rfl rfl (by kernel_rfl) rfl (ex_x rfl (fun w1 h1 => x_mv rfl)) ?_
              refine e_exact 4 _ (by kernel_rfl) rfl rfl (by kernel_rfl) rfl (ex_x rfl (fun w1 h1 => x_fieldAddr rfl Try.runUnderlying126 rfl Try.sizeOf3 (by decide))) ?_
              refine e_exact 5 _ (by kernel_rfl) rfl rfl (by kernel_rfl) rfl (ex_x rfl (fun w1 h1 => x_load rfl (ld_blk ((S87.under 2 rfl h1).blk 5 rfl) Try.isAgg3 rfl))) ?_
              refine e_exact 6 _ (by kernel_rfl) rfl rfl (by kernel_rfl) rfl (ex_x rfl (fun w1 h1 => x_mv rfl)) ?_
              refine e_exact 7 _ (by kernel_rfl) rfl rfl (by kernel_rfl) rfl (ex_x rfl (fun w1 h1 => x_load rfl (ld_blks ((S87.under 2 rfl h1).blk 5 rfl) Try.isAgg126 Try.sizeOf126 rfl rfl))) ?_
              refine e_index EI 8 (by kernel_rfl) rfl rfl (by kernel_rfl) rfl rfl (vec_rd (S87.at 2 rfl)) rfl rfl Try.runUnderlying25 Try.sizeOf3 (by omega) (nth_get (by have := hD.lc; omega)) ?_
              intro b88 o89 hat90
              refine e_next [9] (by kernel_rfl) (by kernel_rfl) ⟨⟨_, _, rfl, rfl, ?_⟩, trivial⟩
              refine s_storevi (f := 0) S87 2 rfl rfl hat90 rfl rfl Try.sizeOf3 (nth_get (by have := hD.lc; omega)) (by decide) rfl ?_
              intro w91 S92 hk93
              refine ⟨hk93, ?_⟩
              refine e_done (by kernel_rfl) ?_
              refine l_index ES rfl (vec_rd (S92.at 3 rfl)) rfl rfl Try.runUnderlying135 Try.sizeOf126 (by omega) hll ?_
              intro b94 o95 hat96 row97
              refine l_storeva (a' := s) S92 3 rfl rfl hat96 rfl rfl Try.sizeOf126 hll rfl ?_
              intro w98 S99 hk100
              refine l_nil ?_
              refine r_inBlock ?_
              refine r_region ?_
              refine l_x rfl (x_add rfl rfl (by omega)) ?_
              refine l_x rfl (x_mv rfl) ?_
              refine l_nil ?_
              exact IHd (i + 1, cost1.set s.dst.toNat (nth cost1 v0 + s.cost), last1.set s.dst.toNat s) _ _ (by dsimp only; omega) ⟨rfl, rfl, rfl, rfl, rfl, rfl, rfl, rfl, rfl, trivial⟩ ⟨by omega, (hD.relax (Q' := fun u t => u ≠ v0 ∨ t ∈ L0.take (i + 1)) hv0 htop hsm hsv ⟨hsb.2.2.1, by omega⟩ (hc s hsm) hsb.2.2.2.2.1 (by simp) (by have := hcnt; omega) (Qstep hs) hc124).1, (hD.relax (Q' := fun u t => u ≠ v0 ∨ t ∈ L0.take (i + 1)) hv0 htop hsm hsv ⟨hsb.2.2.1, by omega⟩ (hc s hsm) hsb.2.2.2.2.1 (by simp) (by have := hcnt; omega) (Qstep hs) hc124).2, (S99.take 5)⟩
            · skip
              refine r_skip ?_
              refine r_inBlock ?_
              refine r_region ?_
              refine l_x rfl (x_add rfl rfl (by omega)) ?_
              refine l_x rfl (x_mv rfl) ?_
              refine l_nil ?_
              exact IHd (i + 1, cost1, last1) _ _ (by dsimp only; omega) ⟨rfl, rfl, rfl, rfl, rfl, rfl, rfl, rfl, rfl, trivial⟩ ⟨by omega, hD.keep (Qstep hs) hc124, htop, (S80.take 5)⟩
          · skip
            have hie : i = L0.length := by omega
            subst hie
            rw [List.take_length] at hD
            have hQe := Qend hL0
            refine r_exit rfl ?_
            refine r_inBlock ?_
            exact IHb (cost1, last1, dn.set v0 true, k + 1, fun u => if u = v0 then k else rk u) _ _ (by have := count_lt hdv; have := hJ.cnt; have := hJ.ld; dsimp only; omega) ⟨rfl, rfl, rfl, rfl, rfl, trivial⟩ ⟨hD.more hQe, (S1d.take 5)⟩
  · skip
    refine e_next [0, 12, 18] (by kernel_rfl) (by kernel_rfl) ⟨⟨_, _, rfl, rfl, ?_⟩, ⟨_, _, rfl, rfl, ?_⟩, ⟨_, _, rfl, rfl, ?_⟩, trivial⟩
    · skip
      refine s_buildSlice EI [_] S9 rfl Try.runUnderlying25 Try.sizeOf3 Try.zeroValue3 rfl ⟨rfl, rfl, trivial⟩ (by decide) ?_
      intro v104 w101 S102 hl103
      refine ⟨.of_le hl103, ?_⟩
      refine e_next [6, 12, 18] (by kernel_rfl) (by kernel_rfl) ⟨⟨_, _, rfl, rfl, ?_⟩, ⟨_, _, rfl, rfl, ?_⟩, ⟨_, _, rfl, rfl, ?_⟩, trivial⟩
      · skip
        refine s_callf [] [] [_, _] rfl rfl Try.call116 rfl ((c_Repeat _ 1152921504606846976 N (by omega) _ (vec_rd (S102.at 2 rfl))).mono ?_)
        rintro v105 w106 ⟨hn108, hl109⟩
        have S107 := S102.add hl109 hn108
        refine ⟨.of_le hl109, ?_⟩
        refine e_exact 19 _ (by kernel_rfl) rfl rfl (by kernel_rfl) rfl (ex_x rfl (fun w1 h1 => x_as rfl)) ?_
        refine e_next [12, 18] (by kernel_rfl) (by kernel_rfl) ⟨⟨_, _, rfl, rfl, ?_⟩, ⟨_, _, rfl, rfl, ?_⟩, trivial⟩
        · skip
          refine s_make ES ⟨0, false, 0, 0, 0⟩ S107 rfl Try.runUnderlying135 Try.sizeOf126 Try.typeInfo126 Try.zeroValue126 rfl rfl (congrArg (Value.int .i64) (Int.toNat_of_nonneg (by omega)).symm) (congrArg (Value.int .i64) (Int.toNat_of_nonneg (by omega)).symm) (Nat.le_refl _) (by unfold maxLen; omega) (by show _ * 40 ≤ _; omega) ?_
          intro v113 w110 hv114 S111 hl112
          refine ⟨.of_le hl112, ?_⟩
          refine e_exact 20 _ (by kernel_rfl) rfl rfl (by kernel_rfl) rfl (ex_x rfl (fun w1 h1 => x_as rfl)) ?_
          refine e_next [18] (by kernel_rfl) (by kernel_rfl) ⟨⟨_, _, rfl, rfl, ?_⟩, trivial⟩
          refine s_make EB false S111 rfl Try.runUnderlying101 Try.sizeOf4 Try.typeInfo4 Try.zeroValue4 rfl rfl (congrArg (Value.int .i64) (Int.toNat_of_nonneg (by omega)).symm) (congrArg (Value.int .i64) (Int.toNat_of_nonneg (by omega)).symm) (Nat.le_refl _) (by unfold maxLen; omega) (by show _ * 1 ≤ _; omega) ?_
          intro v118 w115 hv119 S116 hl117
          refine ⟨.of_le hl117, ?_⟩
          refine e_done (by kernel_rfl) ?_
          exact HK (_, _, _) _ _ ⟨rfl, rfl, rfl, rfl, rfl, trivial⟩ (S116.pick [0, 1, 3, 4, 5] (by decide) rfl)
        · skip
          refine s_make EB false S107 rfl Try.runUnderlying101 Try.sizeOf4 Try.typeInfo4 Try.zeroValue4 rfl rfl (congrArg (Value.int .i64) (Int.toNat_of_nonneg (by omega)).symm) (congrArg (Value.int .i64) (Int.toNat_of_nonneg (by omega)).symm) (Nat.le_refl _) (by unfold maxLen; omega) (by show _ * 1 ≤ _; omega) ?_
          intro v123 w120 hv124 S121 hl122
          refine ⟨.of_le hl122, ?_⟩
          refine e_next [12] (by kernel_rfl) (by kernel_rfl) ⟨⟨_, _, rfl, rfl, ?_⟩, trivial⟩
          refine s_make ES ⟨0, false, 0, 0, 0⟩ S121 rfl Try.runUnderlying135 Try.sizeOf126 Try.typeInfo126 Try.zeroValue126 rfl rfl (congrArg (Value.int .i64) (Int.toNat_of_nonneg (by omega)).symm) (congrArg (Value.int .i64) (Int.toNat_of_nonneg (by omega)).symm) (Nat.le_refl _) (by unfold maxLen; omega) (by show _ * 40 ≤ _; omega) ?_
          intro v128 w125 hv129 S126 hl127
          refine ⟨.of_le hl127, ?_⟩
          refine e_exact 20 _ (by kernel_rfl) rfl rfl (by kernel_rfl) rfl (ex_x rfl (fun w1 h1 => x_as rfl)) ?_
          refine e_done (by kernel_rfl) ?_
          exact HK (_, _, _) _ _ ⟨rfl, rfl, rfl, rfl, rfl, trivial⟩ (S126.pick [0, 1, 3, 5, 4] (by decide) rfl)
      · skip
        refine s_make ES ⟨0, false, 0, 0, 0⟩ S102 rfl Try.runUnderlying135 Try.sizeOf126 Try.typeInfo126 Try.zeroValue126 rfl rfl (congrArg (Value.int .i64) (Int.toNat_of_nonneg (by omega)).symm) (congrArg (Value.int .i64) (Int.toNat_of_nonneg (by omega)).symm) (Nat.le_refl _) (by unfold maxLen; omega) (by show _ * 40 ≤ _; omega) ?_
        intro v133 w130 hv134 S131 hl132
        refine ⟨.of_le hl132, ?_⟩
        refine e_next [6, 18] (by kernel_rfl) (by kernel_rfl) ⟨⟨_, _, rfl, rfl, ?_⟩, ⟨_, _, rfl, rfl, ?_⟩, trivial⟩
        · skip
          refine s_callf [] [] [_, _] rfl rfl Try.call116 rfl ((c_Repeat _ 1152921504606846976 N (by omega) _ (vec_rd (S131.at 2 rfl))).mono ?_)
          rintro v135 w136 ⟨hn138, hl139⟩
          have S137 := S131.add hl139 hn138
          refine ⟨.of_le hl139, ?_⟩
          refine e_exact 19 _ (by kernel_rfl) rfl rfl (by kernel_rfl) rfl (ex_x rfl (fun w1 h1 => x_as rfl)) ?_
          refine e_exact 20 _ (by kernel_rfl) rfl rfl (by kernel_rfl) rfl (ex_x rfl (fun w1 h1 => x_as rfl)) ?_
          refine e_next [18] (by kernel_rfl) (by kernel_rfl) ⟨⟨_, _, rfl, rfl, ?_⟩, trivial⟩
          refine s_make EB false S137 rfl Try.runUnderlying101 Try.sizeOf4 Try.typeInfo4 Try.zeroValue4 rfl rfl (congrArg (Value.int .i64) (Int.toNat_of_nonneg (by omega)).symm) (congrArg (Value.int .i64) (Int.toNat_of_nonneg (by omega)).symm) (Nat.le_refl _) (by unfold maxLen; omega) (by show _ * 1 ≤ _; omega) ?_
          intro v143 w140 hv144 S141 hl142
          refine ⟨.of_le hl142, ?_⟩
          refine e_done (by kernel_rfl) ?_
          exact HK (_, _, _) _ _ ⟨rfl, rfl, rfl, rfl, rfl, trivial⟩ (S141.pick [0, 1, 4, 3, 5] (by decide) rfl)
        · skip
          refine s_make EB false S131 rfl Try.runUnderlying101 Try.sizeOf4 Try.typeInfo4 Try.zeroValue4 rfl rfl (congrArg (Value.int .i64) (Int.toNat_of_nonneg (by omega)).symm) (congrArg (Value.int .i64) (Int.toNat_of_nonneg (by omega)).symm) (Nat.le_refl _) (by unfold maxLen; omega) (by show _ * 1 ≤ _; omega) ?_
          intro v148 w145 hv149 S146 hl147
          refine ⟨.of_le hl147, ?_⟩
          refine e_next [6] (by kernel_rfl) (by kernel_rfl) ⟨⟨_, _, rfl, rfl, ?_⟩, trivial⟩
          refine s_callf [] [] [_, _] rfl rfl Try.call116 rfl ((c_Repeat _ 1152921504606846976 N (by omega) _ (vec_rd (S146.at 2 rfl))).mono ?_)
          rintro v150 w151 ⟨hn153, hl154⟩
          have S152 := S146.add hl154 hn153
          refine ⟨.of_le hl154, ?_⟩
          refine e_exact 19 _ (by kernel_rfl) rfl rfl (by kernel_rfl) rfl (ex_x rfl (fun w1 h1 => x_as rfl)) ?_
          refine e_exact 20 _ (by kernel_rfl) rfl rfl (by kernel_rfl) rfl (ex_x rfl (fun w1 h1 => x_as rfl)) ?_
          refine e_done (by kernel_rfl) ?_
          exact HK (_, _, _) _ _ ⟨rfl, rfl, rfl, rfl, rfl, trivial⟩ (S152.pick [0, 1, 5, 3, 4] (by decide) rfl)
      · skip
        refine s_make EB false S102 rfl Try.runUnderlying101 Try.sizeOf4 Try.typeInfo4 Try.zeroValue4 rfl rfl (congrArg (Value.int .i64) (Int.toNat_of_nonneg (by omega)).symm) (congrArg (Value.int .i64) (Int.toNat_of_nonneg (by omega)).symm) (Nat.le_refl _) (by unfold maxLen; omega) (by show _ * 1 ≤ _; omega) ?_
        intro v158 w155 hv159 S156 hl157
        refine ⟨.of_le hl157, ?_⟩
        refine e_next [6, 12] (by kernel_rfl) (by kernel_rfl) ⟨⟨_, _, rfl, rfl, ?_⟩, ⟨_, _, rfl, rfl, ?_⟩, trivial⟩
        · skip
          refine s_callf [] [] [_, _] rfl rfl Try.call116 rfl ((c_Repeat _ 1152921504606846976 N (by omega) _ (vec_rd (S156.at 2 rfl))).mono ?_)
          rintro v160 w161 ⟨hn163, hl164⟩
          have S162 := S156.add hl164 hn163
          refine ⟨.of_le hl164, ?_⟩
          refine e_exact 19 _ (by kernel_rfl) rfl rfl (by kernel_rfl) rfl (ex_x rfl (fun w1 h1 => x_as rfl)) ?_
          refine e_next [12] (by kernel_rfl) (by kernel_rfl) ⟨⟨_, _, rfl, rfl, ?_⟩, trivial⟩
          refine s_make ES ⟨0, false, 0, 0, 0⟩ S162 rfl Try.runUnderlying135 Try.sizeOf126 Try.typeInfo126 Try.zeroValue126 rfl rfl (congrArg (Value.int .i64) (Int.toNat_of_nonneg (by omega)).symm) (congrArg (Value.int .i64) (Int.toNat_of_nonneg (by omega)).symm) (Nat.le_refl _) (by unfold maxLen; omega) (by show _ * 40 ≤ _; omega) ?_
          intro v168 w165 hv169 S166 hl167
          refine ⟨.of_le hl167, ?_⟩
          refine e_exact 20 _ (by kernel_rfl) rfl rfl (by kernel_rfl) rfl (ex_x rfl (fun w1 h1 => x_as rfl)) ?_
          refine e_done (by kernel_rfl) ?_
          exact HK (_, _, _) _ _ ⟨rfl, rfl, rfl, rfl, rfl, trivial⟩ (S166.pick [0, 1, 4, 5, 3] (by decide) rfl)
        · skip
          refine s_make ES ⟨0, false, 0, 0, 0⟩ S156 rfl Try.runUnderlying135 Try.sizeOf126 Try.typeInfo126 Try.zeroValue126 rfl rfl (congrArg (Value.int .i64) (Int.toNat_of_nonneg (by omega)).symm) (congrArg (Value.int .i64) (Int.toNat_of_nonneg (by omega)).symm) (Nat.le_refl _) (by unfold maxLen; omega) (by show _ * 40 ≤ _; omega) ?_
          intro v173 w170 hv174 S171 hl172
          refine ⟨.of_le hl172, ?_⟩
          refine e_next [6] (by kernel_rfl) (by kernel_rfl) ⟨⟨_, _, rfl, rfl, ?_⟩, trivial⟩
          refine s_callf [] [] [_, _] rfl rfl Try.call116 rfl ((c_Repeat _ 1152921504606846976 N (by omega) _ (vec_rd (S171.at 2 rfl))).mono ?_)
          rintro v175 w176 ⟨hn178, hl179⟩
          have S177 := S171.add hl179 hn178
          refine ⟨.of_le hl179, ?_⟩
          refine e_exact 19 _ (by kernel_rfl) rfl rfl (by kernel_rfl) rfl (ex_x rfl (fun w1 h1 => x_as rfl)) ?_
          refine e_exact 20 _ (by kernel_rfl) rfl rfl (by kernel_rfl) rfl (ex_x rfl (fun w1 h1 => x_as rfl)) ?_
          refine e_done (by kernel_rfl) ?_
          exact HK (_, _, _) _ _ ⟨rfl, rfl, rfl, rfl, rfl, trivial⟩ (S177.pick [0, 1, 5, 4, 3] (by decide) rfl)
    · skip
      refine s_make ES ⟨0, false, 0, 0, 0⟩ S9 rfl Try.runUnderlying135 Try.sizeOf126 Try.typeInfo126 Try.zeroValue126 rfl rfl (congrArg (Value.int .i64) (Int.toNat_of_nonneg (by omega)).symm) (congrArg (Value.int .i64) (Int.toNat_of_nonneg (by omega)).symm) (Nat.le_refl _) (by unfold maxLen; omega) (by show _ * 40 ≤ _; omega) ?_
      intro v183 w180 hv184 S181 hl182
      refine ⟨.of_le hl182, ?_⟩
      refine e_next [0, 18] (by kernel_rfl) (by kernel_rfl) ⟨⟨_, _, rfl, rfl, ?_⟩, ⟨_, _, rfl, rfl, ?_⟩, trivial⟩
      · skip
        refine s_buildSlice EI [_] S181 rfl Try.runUnderlying25 Try.sizeOf3 Try.zeroValue3 rfl ⟨rfl, rfl, trivial⟩ (by decide) ?_
        intro v188 w185 S186 hl187
        refine ⟨.of_le hl187, ?_⟩
        refine e_next [6, 18] (by kernel_rfl) (by kernel_rfl) ⟨⟨_, _, rfl, rfl, ?_⟩, ⟨_, _, rfl, rfl, ?_⟩, trivial⟩
        · skip
          refine s_callf [] [] [_, _] rfl rfl Try.call116 rfl ((c_Repeat _ 1152921504606846976 N (by omega) _ (vec_rd (S186.at 3 rfl))).mono ?_)
          rintro v189 w190 ⟨hn192, hl193⟩
          have S191 := S186.add hl193 hn192
          refine ⟨.of_le hl193, ?_⟩
          refine e_exact 19 _ (by kernel_rfl) rfl rfl (by kernel_rfl) rfl (ex_x rfl (fun w1 h1 => x_as rfl)) ?_
          refine e_exact 20 _ (by kernel_rfl) rfl rfl (by kernel_rfl) rfl (ex_x rfl (fun w1 h1 => x_as rfl)) ?_
          refine e_next [18] (by kernel_rfl) (by kernel_rfl) ⟨⟨_, _, rfl, rfl, ?_⟩, trivial⟩
          refine s_make EB false S191 rfl Try.runUnderlying101 Try.sizeOf4 Try.typeInfo4 Try.zeroValue4 rfl rfl (congrArg (Value.int .i64) (Int.toNat_of_nonneg (by omega)).symm) (congrArg (Value.int .i64) (Int.toNat_of_nonneg (by omega)).symm) (Nat.le_refl _) (by unfold maxLen; omega) (by show _ * 1 ≤ _; omega) ?_
          intro v197 w194 hv198 S195 hl196
          refine ⟨.of_le hl196, ?_⟩
          refine e_done (by kernel_rfl) ?_
          exact HK (_, _, _) _ _ ⟨rfl, rfl, rfl, rfl, rfl, trivial⟩ (S195.pick [0, 1, 4, 2, 5] (by decide) rfl)
        · skip
          refine s_make EB false S186 rfl Try.runUnderlying101 Try.sizeOf4 Try.typeInfo4 Try.zeroValue4 rfl rfl (congrArg (Value.int .i64) (Int.toNat_of_nonneg (by omega)).symm) (congrArg (Value.int .i64) (Int.toNat_of_nonneg (by omega)).symm) (Nat.le_refl _) (by unfold maxLen; omega) (by show _ * 1 ≤ _; omega) ?_
          intro v202 w199 hv203 S200 hl201
          refine ⟨.of_le hl201, ?_⟩
          refine e_next [6] (by kernel_rfl) (by kernel_rfl) ⟨⟨_, _, rfl, rfl, ?_⟩, trivial⟩
          refine s_callf [] [] [_, _] rfl rfl Try.call116 rfl ((c_Repeat _ 1152921504606846976 N (by omega) _ (vec_rd (S200.at 3 rfl))).mono ?_)
          rintro v204 w205 ⟨hn207, hl208⟩
          have S206 := S200.add hl208 hn207
          refine ⟨.of_le hl208, ?_⟩
          refine e_exact 19 _ (by kernel_rfl) rfl rfl (by kernel_rfl) rfl (ex_x rfl (fun w1 h1 => x_as rfl)) ?_
          refine e_exact 20 _ (by kernel_rfl) rfl rfl (by kernel_rfl) rfl (ex_x rfl (fun w1 h1 => x_as rfl)) ?_
          refine e_done (by kernel_rfl) ?_
          exact HK (_, _, _) _ _ ⟨rfl, rfl, rfl, rfl, rfl, trivial⟩ (S206.pick [0, 1, 5, 2, 4] (by decide) rfl)
      · skip
        refine s_make EB false S181 rfl Try.runUnderlying101 Try.sizeOf4 Try.typeInfo4 Try.zeroValue4 rfl rfl (congrArg (Value.int .i64) (Int.toNat_of_nonneg (by omega)).symm) (congrArg (Value.int .i64) (Int.toNat_of_nonneg (by omega)).symm) (Nat.le_refl _) (by unfold maxLen; omega) (by show _ * 1 ≤ _; omega) ?_
        intro v212 w209 hv213 S210 hl211
        refine ⟨.of_le hl211, ?_⟩
        refine e_next [0] (by kernel_rfl) (by kernel_rfl) ⟨⟨_, _, rfl, rfl, ?_⟩, trivial⟩
        refine s_buildSlice EI [_] S210 rfl Try.runUnderlying25 Try.sizeOf3 Try.zeroValue3 rfl ⟨rfl, rfl, trivial⟩ (by decide) ?_
        intro v217 w214 S215 hl216
        refine ⟨.of_le hl216, ?_⟩
        refine e_next [6] (by kernel_rfl) (by kernel_rfl) ⟨⟨_, _, rfl, rfl, ?_⟩, trivial⟩
        refine s_callf [] [] [_, _] rfl rfl Try.call116 rfl ((c_Repeat _ 1152921504606846976 N (by omega) _ (vec_rd (S215.at 4 rfl))).mono ?_)
        rintro v218 w219 ⟨hn221, hl222⟩
        have S220 := S215.add hl222 hn221
        refine ⟨.of_le hl222, ?_⟩
        refine e_exact 19 _ (by kernel_rfl) rfl rfl (by kernel_rfl) rfl (ex_x rfl (fun w1 h1 => x_as rfl)) ?_
        refine e_exact 20 _ (by kernel_rfl) rfl rfl (by kernel_rfl) rfl (ex_x rfl (fun w1 h1 => x_as rfl)) ?_
        refine e_done (by kernel_rfl) ?_
        exact HK (_, _, _) _ _ ⟨rfl, rfl, rfl, rfl, rfl, trivial⟩ (S220.pick [0, 1, 5, 2, 3] (by decide) rfl)
    · skip
      refine s_make EB false S9 rfl Try.runUnderlying101 Try.sizeOf4 Try.typeInfo4 Try.zeroValue4 rfl rfl (congrArg (Value.int .i64) (Int.toNat_of_nonneg (by omega)).symm) (congrArg (Value.int .i64) (Int.toNat_of_nonneg (by omega)).symm) (Nat.le_refl _) (by unfold maxLen; omega) (by show _ * 1 ≤ _; omega) ?_
      intro v226 w223 hv227 S224 hl225
      refine ⟨.of_le hl225, ?_⟩
      refine e_next [0, 12] (by kernel_rfl) (by kernel_rfl) ⟨⟨_, _, rfl, rfl, ?_⟩, ⟨_, _, rfl, rfl, ?_⟩, trivial⟩
      · skip
        refine s_buildSlice EI [_] S224 rfl Try.runUnderlying25 Try.sizeOf3 Try.zeroValue3 rfl ⟨rfl, rfl, trivial⟩ (by decide) ?_
        intro v231 w228 S229 hl230
        refine ⟨.of_le hl230, ?_⟩
        refine e_next [6, 12] (by kernel_rfl) (by kernel_rfl) ⟨⟨_, _, rfl, rfl, ?_⟩, ⟨_, _, rfl, rfl, ?_⟩, trivial⟩
        · skip
          refine s_callf [] [] [_, _] rfl rfl Try.call116 rfl ((c_Repeat _ 1152921504606846976 N (by omega) _ (vec_rd (S229.at 3 rfl))).mono ?_)
          rintro v232 w233 ⟨hn235, hl236⟩
          have S234 := S229.add hl236 hn235
          refine ⟨.of_le hl236, ?_⟩
          refine e_exact 19 _ (by kernel_rfl) rfl rfl (by kernel_rfl) rfl (ex_x rfl (fun w1 h1 => x_as rfl)) ?_
          refine e_next [12] (by kernel_rfl) (by kernel_rfl) ⟨⟨_, _, rfl, rfl, ?_⟩, trivial⟩
          refine s_make ES ⟨0, false, 0, 0, 0⟩ S234 rfl Try.runUnderlying135 Try.sizeOf126 Try.typeInfo126 Try.zeroValue126 rfl rfl (congrArg (Value.int .i64) (Int.toNat_of_nonneg (by omega)).symm) (congrArg (Value.int .i64) (Int.toNat_of_nonneg (by omega)).symm) (Nat.le_refl _) (by unfold maxLen; omega) (by show _ * 40 ≤ _; omega) ?_
          intro v240 w237 hv241 S238 hl239
          refine ⟨.of_le hl239, ?_⟩
          refine e_exact 20 _ (by kernel_rfl) rfl rfl (by kernel_rfl) rfl (ex_x rfl (fun w1 h1 => x_as rfl)) ?_
          refine e_done (by kernel_rfl) ?_
          exact HK (_, _, _) _ _ ⟨rfl, rfl, rfl, rfl, rfl, trivial⟩ (S238.pick [0, 1, 4, 5, 2] (by decide) rfl)
        · skip
          refine s_make ES ⟨0, false, 0, 0, 0⟩ S229 rfl Try.runUnderlying135 Try.sizeOf126 Try.typeInfo126 Try.zeroValue126 rfl rfl (congrArg (Value.int .i64) (Int.toNat_of_nonneg (by omega)).symm) (congrArg (Value.int .i64) (Int.toNat_of_nonneg (by omega)).symm) (Nat.le_refl _) (by unfold maxLen; omega) (by show _ * 40 ≤ _; omega) ?_
          intro v245 w242 hv246 S243 hl244
          refine ⟨.of_le hl244, ?_⟩
          refine e_next [6] (by kernel_rfl) (by kernel_rfl) ⟨⟨_, _, rfl, rfl, ?_⟩, trivial⟩
          refine s_callf [] [] [_, _] rfl rfl Try.call116 rfl ((c_Repeat _ 1152921504606846976 N (by omega) _ (vec_rd (S243.at 3 rfl))).mono ?_)
          rintro v247 w248 ⟨hn250, hl251⟩
          have S249 := S243.add hl251 hn250
          refine ⟨.of_le hl251, ?_⟩
          refine e_exact 19 _ (by kernel_rfl) rfl rfl (by kernel_rfl) rfl (ex_x rfl (fun w1 h1 => x_as rfl)) ?_
          refine e_exact 20 _ (by kernel_rfl) rfl rfl (by kernel_rfl) rfl (ex_x rfl (fun w1 h1 => x_as rfl)) ?_
          refine e_done (by kernel_rfl) ?_
          exact HK (_, _, _) _ _ ⟨rfl, rfl, rfl, rfl, rfl, trivial⟩ (S249.pick [0, 1, 5, 4, 2] (by decide) rfl)
      · skip
        refine s_make ES ⟨0, false, 0, 0, 0⟩ S224 rfl Try.runUnderlying135 Try.sizeOf126 Try.typeInfo126 Try.zeroValue126 rfl rfl (congrArg (Value.int .i64) (Int.toNat_of_nonneg (by omega)).symm) (congrArg (Value.int .i64) (Int.toNat_of_nonneg (by omega)).symm) (Nat.le_refl _) (by unfold maxLen; omega) (by show _ * 40 ≤ _; omega) ?_
        intro v255 w252 hv256 S253 hl254
        refine ⟨.of_le hl254, ?_⟩
        refine e_next [0] (by kernel_rfl) (by kernel_rfl) ⟨⟨_, _, rfl, rfl, ?_⟩, trivial⟩
        refine s_buildSlice EI [_] S253 rfl Try.runUnderlying25 Try.sizeOf3 Try.zeroValue3 rfl ⟨rfl, rfl, trivial⟩ (by decide) ?_
        intro v260 w257 S258 hl259
        refine ⟨.of_le hl259, ?_⟩
        refine e_next [6] (by kernel_rfl) (by kernel_rfl) ⟨⟨_, _, rfl, rfl, ?_⟩, trivial⟩
        refine s_callf [] [] [_, _] rfl rfl Try.call116 rfl ((c_Repeat _ 1152921504606846976 N (by omega) _ (vec_rd (S258.at 4 rfl))).mono ?_)
        rintro v261 w262 ⟨hn264, hl265⟩
        have S263 := S258.add hl265 hn264
        refine ⟨.of_le hl265, ?_⟩
        refine e_exact 19 _ (by kernel_rfl) rfl rfl (by kernel_rfl) rfl (ex_x rfl (fun w1 h1 => x_as rfl)) ?_
        refine e_exact 20 _ (by kernel_rfl) rfl rfl (by kernel_rfl) rfl (ex_x rfl (fun w1 h1 => x_as rfl)) ?_
        refine e_done (by kernel_rfl) ?_
        exact HK (_, _, _) _ _ ⟨rfl, rfl, rfl, rfl, rfl, trivial⟩ (S263.pick [0, 1, 5, 3, 2] (by decide) rfl)

end Go.Proofs
