/-
  Contracts of functions of the program: each by symbolic execution of its text.
-/
import Derived.Test.YtddapgjjndbejaaF7
namespace Go.Proofs
open Go Go.Vk Go.Vk.Flow

/-- (*couchant/flow.carried).by. -/
theorem c_by (N : Int) (va : Value) (arcs : List Arc) (vx : Value) (x : List Int) (vw : Value) (wl : List Int) (m p : Nat → Int) (hV : Valid N arcs) (hx0 : Amts arcs x) (hw0 : Wts arcs wl) (hp : ∀ v, -10000000 ≤ p v ∧ p v ≤ 10000000) (bc : Nat) (w : World) (hq : CarR w bc N va arcs vx x vw wl m p) :
    Cl Try.prog 130 #[.pointer (some ⟨bc, 0, none⟩)] w fun v w' => ∃ hs, hs.length = N.toNat ∧ Own nob w w' [vec EH v hs, pack (nest ES hs (byl N (stps p 0 arcs x wl)))] := by
  have hNx := hV.max
  have hN1 := hV.pos
  have hLx := hV.len
  refine fn_of_run (args := [_]) 27 Try.func130 rfl rfl rfl fun cs => ?_
  have S := Own.start (X := nob) w
  refine r_seq ?_
  refine r_region ?_
  refine l_x rfl (x_as rfl) ?_
  refine l_nil ?_
  refine r_seq ?_
  refine r_region ?_
  refine l_x rfl (x_mv rfl) ?_
  refine l_x rfl (x_nilCheck rfl) ?_
  refine l_x rfl (x_fieldAddr rfl Try.runUnderlying91 rfl Try.sizeOf24 (by decide)) ?_
  refine l_x rfl (x_fieldAddr rfl Try.runUnderlying24 rfl Try.sizeOf3 (by decide)) ?_
  refine l_x rfl (x_load rfl (ld_blk (hq.le S.le).blk Try.isAgg3 rfl)) ?_
  refine l_make EH (none, 0, 0) S rfl Try.runUnderlying132 Try.sizeOf135 Try.typeInfo135 Try.zeroValue135 rfl rfl (congrArg (Value.int .i64) (Int.toNat_of_nonneg (by omega)).symm) (congrArg (Value.int .i64) (Int.toNat_of_nonneg (by omega)).symm) (Nat.le_refl _) (by unfold maxLen; omega) (by show _ * 24 ≤ _; omega) ?_
  intro v4 w1 hv5 S2 hl3
  refine l_alloc S2 rfl Try.zeroValue132 rfl ?_
  intro b9 w6 S7 hl8
  refine l_storeq (c' := [_]) (v := v4) S7 1 rfl rfl rfl rfl (Rd.one (vec_rd (S7.at 0 rfl))) Try.sizeOf132 (by simp) rfl ?_
  intro w10 S11 hk12
  refine l_nil ?_
  refine r_seq ?_
  refine r_seq ?_
  have Sn := S11.nest ES N.toNat
  rw [← byl_nil] at Sn
  refine r_region ?_
  refine l_x rfl (x_mv rfl) ?_
  refine l_x rfl (x_func rfl rfl) ?_
  refine l_nil ?_
  refine r_block ?_
  refine r_rangeFunc [_] [] Sn rfl rfl Try.call122 ?_
  intro D13 l14 w15 S16 hl17
  have S18 : Own _ _ _ [_, _, _, _, _] := S16.pick [0, 1, 2, 3, 4] (by decide) rfl
  have S19 := Own.pack (A := []) (L := [_, _, _, _, _]) S18
  refine (c_steps N va arcs vx x vw wl m p hV hx0 hw0 hp bc nob w _ (fun t r => ∃ hs : List Hd, hs.length = N.toNat ∧ r = pack [vec EH v4 hs, _, pack (nest ES hs (byl N t)), _, _]) (fun _ _ _ _ S' => hq.le S'.le) ?_ _ ⟨_, List.length_replicate, rfl⟩ _ S19).mono ?_
  · skip
    rintro t _ s w1 ⟨hs, hlen, rfl⟩ ⟨s1, hin⟩ hS
    have S20 := hS.open
    have hsb := stps_ok hV (s := s) (p := p) (x := x) (wl := wl) (by rw [hin]; simp)
    have htl : t.length < 8000 := by have h1 := stps_len p 0 arcs x wl; rw [hin] at h1; simp at h1; omega
    obtain ⟨h0, hh⟩ : ∃ h0, hs[s.src.toNat]? = some h0 := ⟨_, List.getElem?_eq_getElem (by omega)⟩
    refine yl_of_run (S20.obj 4 rfl) rfl (fun c cs => ?_)
    refine r_region ?_
    refine l_alloc S20 rfl Try.zeroValue126 rfl ?_
    intro b24 w21 S22 hl23
    refine l_stores S22 5 rfl rfl rfl rfl (ES.one _) Try.sizeOf126 (by first | exact Nat.le_refl _ | simp) (splice_all rfl) ?_
    intro w25 S26 hk27
    refine l_nil ?_
    refine r_beginRound S26 4 rfl rfl ?_
    intro w28 S29 hk30
    refine r_block ?_
    refine r_drawE 11 (Rsc.fp (pack (nest ES hs (byl N t)))) Try.mixed (by kernel_rfl) ?_
    intro w31 hl32
    have S33 := S29.step hl32
    refine e_exact 0 _ (by kernel_rfl) rfl rfl (by kernel_rfl) rfl (ex_x rfl (fun w1 h1 => x_load rfl (ld_blk ((S33.under 2 rfl h1).blk 1 rfl) Try.isAgg132 rfl))) ?_
    refine e_exact 1 _ (by kernel_rfl) rfl rfl (by kernel_rfl) rfl (ex_x rfl (fun w1 h1 => x_fieldAddr rfl Try.runUnderlying126 rfl Try.sizeOf3 (by decide))) ?_
    refine e_exact 2 _ (by kernel_rfl) rfl rfl (by kernel_rfl) rfl (ex_x rfl (fun w1 h1 => x_load rfl (ld_blk ((S33.under 2 rfl h1).blk 5 rfl) Try.isAgg3 rfl))) ?_
    refine e_exact 3 _ (by kernel_rfl) rfl rfl (by kernel_rfl) rfl (ex_x rfl (fun w1 h1 => x_load rfl (ld_blk ((S33.under 2 rfl h1).blk 1 rfl) Try.isAgg132 rfl))) ?_
    refine e_exact 4 _ (by kernel_rfl) rfl rfl (by kernel_rfl) rfl (ex_x rfl (fun w1 h1 => x_fieldAddr rfl Try.runUnderlying126 rfl Try.sizeOf3 (by decide))) ?_
    refine e_exact 5 _ (by kernel_rfl) rfl rfl (by kernel_rfl) rfl (ex_x rfl (fun w1 h1 => x_load rfl (ld_blk ((S33.under 2 rfl h1).blk 5 rfl) Try.isAgg3 rfl))) ?_
    refine e_index EH 6 (by kernel_rfl) rfl rfl (by kernel_rfl) rfl rfl (vec_rd (S33.at 0 rfl)) rfl rfl Try.runUnderlying132 Try.sizeOf135 (by omega) hh ?_
    intro b34 o35 hat36
    refine e_exact 7 _ (by kernel_rfl) rfl rfl (by kernel_rfl) rfl (ex_x rfl (fun w1 h1 => x_load rfl (ld_cell Try.isAgg135 ((rd_row (vec_rd ((S33.under 2 rfl h1).at 0 rfl)) hat36 hh) 0 _ rfl)))) ?_
    refine e_exact 8 _ (by kernel_rfl) rfl rfl (by kernel_rfl) rfl (ex_x rfl (fun w1 h1 => x_load rfl (ld_blks ((S33.under 2 rfl h1).blk 5 rfl) Try.isAgg126 Try.sizeOf126 rfl rfl))) ?_
    refine e_next [9] (by kernel_rfl) (by kernel_rfl) ⟨⟨_, _, rfl, rfl, ?_⟩, trivial⟩
    refine s_buildSlice ES [s] S33 rfl Try.runUnderlying135 Try.sizeOf126 Try.zeroValue126 rfl ⟨rfl, rfl, trivial⟩ (by decide) ?_
    intro v40 w37 S38 hl39
    refine ⟨.of_le hl39, ?_⟩
    refine e_next [10] (by kernel_rfl) (by kernel_rfl) ⟨⟨_, _, rfl, rfl, ?_⟩, trivial⟩
    have S41 := (S38.lend 2 rfl).open
    refine s_append ES S41 s.src.toNat (nest_get hh (byl_get (by omega))) rfl rfl rfl (vec_rd (S38.at 6 rfl)) Try.underlying135 info126 rfl rfl rfl (by have := List.length_filter_le (fun u : Stp => decide (u.src = ((s.src.toNat : Nat) : Int))) t; unfold maxLen; rw [List.length_singleton]; omega) (by have := List.length_filter_le (fun u : Stp => decide (u.src = ((s.src.toNat : Nat) : Int))) t; rw [List.length_singleton]; show _ * 40 ≤ _; omega) ?_
    intro v42 w43 S44 hk45 hv46
    obtain ⟨b47, c48, rfl⟩ := hv46 (by simp)
    have S49 := S38.back 2 rfl S44.close
    refine ⟨hk45.mono fun _ _ hb => ⟨_, List.mem_of_getElem? (nest_get hh (byl_get (by omega))), hb⟩, ?_⟩
    refine e_done (by kernel_rfl) ?_
    refine l_index EH rfl (vec_rd (S49.at 0 rfl)) rfl rfl Try.runUnderlying132 Try.sizeOf135 (by omega) hh ?_
    intro b50 o51 hat52 row53
    refine l_storev1 (a' := (some ⟨b47, 0, none⟩, (t.filter fun u => decide (u.src = ((s.src.toNat : Nat) : Int))).length + [s].length, c48)) (f := 0) S49 0 rfl rfl hat52 rfl rfl rfl Try.sizeOf135 hh (by decide) rfl ?_
    intro w54 S55 hk56
    refine l_nil ?_
    refine r_inBlock ?_
    refine r_roundEnd S55 4 rfl ?_
    intro w57 S58
    exact ⟨_, rfl, ⟨hs.set s.src.toNat (some ⟨b47, 0, none⟩, (t.filter fun u => decide (u.src = ((s.src.toNat : Nat) : Int))).length + [s].length, c48), by rw [List.length_set]; exact hlen, rfl⟩, by rw [← byl_snoc (by omega), ← nest_set]; exact (S58.take 5).close⟩
  rintro _ w59 ⟨_, ⟨hs, hlen, rfl⟩, hback60⟩
  have S61 := Own.unpack (A := []) (L := [_, _, _, _, _]) hback60
  refine r_endRange S61 4 rfl rfl ?_
  intro w62 S63 hk64
  refine r_inBlock ?_
  refine r_seq ?_
  refine r_region ?_
  refine l_x rfl (x_load rfl (ld_blk (S63.blk 1 rfl) Try.isAgg132 rfl)) ?_
  refine l_x rfl (x_as rfl) ?_
  refine l_nil ?_
  refine r_retL rfl ?_
  refine leave_mark S63 3 rfl ?_
  intro w65 S66 hk67
  refine leave_done (rs := [.tmp 2]) [_] Try.func130 rfl ⟨rfl, trivial⟩ ?_
  exact ⟨hs, hlen, S66.pick [0, 2] (by decide) rfl⟩

end Go.Proofs
