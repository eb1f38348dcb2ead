/- Texts joined for claims: M35, M36, M37, M38, G1, G2, G3, G8, G9, M27, M29, G12, G22, G23, G24, G25, G26. -/
import Derived.Test.YtaigapdghhoncaaGreatDoorK9afd556b26
import Derived.Test.YtaigapdghhoncaaGreatDoorKa3f0850865
import Derived.Test.YtaigapdghhoncaaGreatDoorTexts
import Derived.Test.YtaigapdghhoncaaGreatDoorKc2c3a9d66c
import Derived.Test.YtaigapdghhoncaaGreatDoorK92608acdbc
import Derived.Test.YtaigapdghhoncaaGreatDoorK6d2c2eb465
import Derived.Lib.SmallJoins
import Derived.Lib.AtoiErrMem
import Derived.Test.YtaigapdghhoncaaGreatDoorKefb84aff0c
import Derived.Test.YtaigapdghhoncaaGreatDoorKfd521c5264
set_option linter.unusedVariables false
set_option linter.unusedSimpArgs false
set_option linter.unusedSectionVars false
namespace Go.Proofs
open Go Go.Vk Go.Vk.Flow

open Go.Vk.Mark
open Go.Vk.Deed (i64 rng rng_iff owners sumI sumI_cons sumI_snoc)
open Go.RowKit

theorem info9 : Tryz.prog.info? 9 = some Tryz.t9 := by kernel_rfl
structure Gl2 (w : World) : Prop where
 g : Gl w
 s : ∃ ev, w.cell? ⟨2, 0, none⟩ = some ev ∧ (ev = .nilIface ∨ ∃ te pe, ev = .iface te pe)
 r : ∃ ev, w.cell? ⟨3, 0, none⟩ = some ev ∧ (ev = .nilIface ∨ ∃ te pe, ev = .iface te pe)
 t : Lib.TabIs Tryz.prog w "internal/strconv.uint64pow10" .u64 Lib.pow10Tab
theorem Gl2.bl {w w' : World} (h : Gl2 w) (hk : Bl w w') : Gl2 w' :=
 ⟨let ⟨m, hm⟩ := h.g; ⟨m, cell_bl hm hk⟩, let ⟨e, h1, h2⟩ := h.s; ⟨e, cell_bl h1 hk, h2⟩, let ⟨e, h1, h2⟩ := h.r; ⟨e, cell_bl h1 hk, h2⟩, Go.Joins.tab_stays (g := 0) (by kernel_rfl) h.t hk.below (Nat.le_refl _)⟩
theorem c_Itoa (n : Int) (hn : -9223372036854775808 ≤ n ∧ n ≤ 9223372036854775807) (w : World) (hG : Gl2 w) : Cl Tryz.prog 130 #[Value.int .i64 n] w fun v w' => v = .string (bs (Lib.itoa n)) ∧ Le w w' :=
 (Tryz.strconv_Itoa n hn.1 hn.2 w hG.t).mono fun e w' h => by
  obtain ⟨he, k, os, rfl⟩ := h
  refine ⟨_, he, rfl, ?_⟩
  have h1 : Le w (w.drewN k) := ⟨rfl, rfl, rfl, Nat.le_refl _, fun _ _ _ => rfl, Nat.le_add_right _ _⟩
  exact h1.trans (le_grow _ _)
theorem c_ItoaB (n : Int) (hn : -9223372036854775808 ≤ n ∧ n ≤ 9223372036854775807) (w : World) (hG : Gl2 w) : Cl Tryz.prog 130 #[Value.int .i64 n] w fun v w' => v = .string (bs (Lib.itoa n)) ∧ Bl w w' :=
 (c_Itoa n hn w hG).mono fun _ _ h => ⟨h.1, h.2.bl⟩
theorem bytes_drawn (w : World) (e : TypeId) (t : ByteArray) : w.drawn ≤ (Lib.bytesWorld w e t).drawn := by
 unfold Lib.bytesWorld World.freeze
 have h1 : w.drawn ≤ w.drew.drawn := Nat.le_succ _
 split <;> exact h1
theorem c_Atoi (s : List UInt8) (hs : s.length ≤ 1000) (w : World) (hG : Gl2 w) : Cl Tryz.prog 189 #[.string (bs s)] w fun v w' => (∃ n, Lib.atoiAll s = .ok n ∧ v = .tuple #[.int .i64 n, .nilIface] ∧ Le w w') ∨ (∃ n T x, (∀ k, Lib.atoiAll s ≠ .ok k) ∧ v = .tuple #[.int .i64 n, .iface T x] ∧ Bl w w') := by
 have hsz : (bs s).size = s.length := rfl
 cases ha : Lib.atoiAll s
 ·rename_i n
  refine (Tryz.strconv_Atoi_ok (bs s) (by rw [hsz]; omega) n ha w).mono fun e w' h => ?_
  obtain ⟨he, hw⟩ := h
  refine ⟨_, he, .inl ⟨n, rfl, rfl, ?_⟩⟩
  rcases hw with rfl | ⟨t, rfl⟩
  ·exact Le.refl _
  have hb := Lib.bytesWorld_below w 5 t
  exact ⟨hb.os, hb.tape, hb.output, hb.size, fun b h _ => hb.block b h, bytes_drawn w 5 t⟩
 ·obtain ⟨ev, h1, h2⟩ := hG.s
  refine (Tryz.strconv_Atoi_bad (bs s) (by rw [hsz]; omega) (fun v hv => by rw [show Lib.atoiAll (bs s).data.toList = Lib.atoiAll s from rfl, ha] at hv; cases hv) (fun hv => by rw [show Lib.atoiAll (bs s).data.toList = Lib.atoiAll s from rfl, ha] at hv; cases hv) ev w h1 h2).mono fun e w' h => ?_
  obtain ⟨N, he, _, _, hb⟩ := h
  exact ⟨_, he, .inr ⟨_, _, _, fun k hk => (by cases hk), rfl, Bl.of_below hb⟩⟩
 obtain ⟨ev, h1, h2⟩ := hG.r
 refine (Tryz.strconv_Atoi_range (bs s) (by rw [hsz]; omega) ha ev w h1 h2).mono fun e w' h => ?_
 obtain ⟨N, he, _, _, hb⟩ := h
 exact ⟨_, he, .inr ⟨_, _, _, fun k hk => (by cases hk), rfl, Bl.of_below hb⟩⟩
theorem c_Join (l : List (List UInt8)) (v : Value) (hne : l ≠ []) (hl : l.length ≤ 1000) (hlen : (Lib.join l [32]).length ≤ 1000000) (w : World) (hR : Rd EST w v l) : Cl Tryz.prog 186 #[v, .string (bs [32])] w fun v w' => v = .string (bs (Lib.join l [32])) ∧ Bl w w' := by
 obtain ⟨a, cap, rfl, hc, hrow⟩ := hR
 have h0 : 0 < l.length := List.length_pos_iff.2 hne
 obtain ⟨b0, o0, rfl, _⟩ := hrow 0 _ (List.getElem?_eq_getElem h0)
 have hcells : ∀ (j : Nat) x, (l.map bs)[j]? = some x → w.cell? ⟨b0, o0 + j, none⟩ = some (.string x) := by
  intro j x hx
  rw [List.getElem?_map] at hx
  cases e : l[j]? with
  | none => rw [e] at hx; cases hx
  | some y =>
   rw [e] at hx; cases hx
   obtain ⟨b1, o1, h1, hr⟩ := hrow j y e
   cases h1
   have := hr 0 (.string (bs y)) rfl
   have hsz : (strE 9).sz = 1 := rfl
   rw [hsz, Nat.mul_one, Nat.add_zero] at this
   exact this
 have hmap : (l.map bs).map (·.data.toList) = l := by rw [List.map_map]; exact List.map_id l
 have hbk : b0 < w.heap.size := World.block_lt_of_cell? (h := hcells 0 _ (by rw [List.getElem?_map, List.getElem?_eq_getElem h0]; rfl))
 have hj := Tryz.strings_Join b0 o0 cap (l.map bs) (bs [32]) w hcells hbk (by rw [List.length_map]; omega) (by rw [List.length_map]; exact hc) (by rw [hmap]; show (Lib.join l [32]).length ≤ _; omega)
 rw [List.length_map] at hj
 refine hj.mono fun e w' h => ?_
 obtain ⟨he, hb⟩ := h
 refine ⟨_, he, ?_, Bl.of_below hb⟩
 rw [hmap]; rfl
theorem wsb_get {ws : List (List UInt8)} {i : Nat} (h : i < ws.length) : (ws.map fun x => Value.string (bs x))[0 + i * 1]? = some (.string (bs ((ws[i]?).getD []))) := by
 rw [show 0 + i * 1 = i by omega, List.getElem?_map, List.getElem?_eq_getElem h]; rfl

theorem c_wword (p : Nat) (g : Int) (hg : 0 ≤ g) (hg2 : g ≤ 4 ∨ g = 9) (w : World) :
  Cl Tryz.prog 185 #[Value.agg (((wordsW p)).map fun x => Value.string (bs x)).toArray, Value.int .u8 g] w fun v w' => v = .string (bs (wordAt p g)) ∧ Le w w' := by
 refine fn_of_run (args := [_, _]) 10 Tryz.func185 rfl rfl rfl fun cs => ?_
 have S := Own.start (X := nob) w
 refine r_seq ?_
 refine r_region ?_
 refine l_box S rfl rfl ?_
 intro b4 w1 S2 hl3
 refine l_a rfl ?_
 refine l_nil ?_
 refine r_seq ?_
 refine r_seq ?_
 refine r_region ?_
 refine l_m rfl ?_
 refine l_x rfl (x_eql rfl rfl) ?_
 refine l_nil ?_
 refine r_ifd rfl (fun hc6 => ?_) (fun hc6 => ?_)
 ·skip
  refine r_seq ?_
  refine r_region ?_
  refine l_a rfl ?_
  refine l_nil ?_
  refine r_ret (rs := [.tmp 4]) [_] Tryz.func185 rfl ⟨rfl, trivial⟩ ?_
  exact ⟨congrArg (fun q => Value.string (bs q)) (by unfold wordAt; rw [if_pos hc6]; rfl), S2.le⟩
 refine r_skip ?_
 refine r_seq ?_
 refine r_region ?_
 refine l_m rfl ?_
 refine l_x rfl (x_indexAddr_arrayk rfl rfl Tryz.runUnderlying206 Tryz.sizeOf9 (show 0 ≤ g ∧ g < 5 by omega)) ?_
 refine l_x rfl (x_load rfl (ld_blk (S2.blk 0 rfl) Tryz.isAgg9 (wsb_get (by rw [words_len]; omega)))) ?_
 refine l_a rfl ?_
 refine l_nil ?_
 refine r_ret (rs := [.tmp 4]) [_] Tryz.func185 rfl ⟨rfl, trivial⟩ ?_
 exact ⟨congrArg (fun q => Value.string (bs q)) (by unfold wordAt; rw [if_neg hc6]), S2.le⟩

theorem told_step {s : Sg} {i : Nat} (hi : i < 6) : (toldL s).take (i + 1) = (toldL s).take i ++ [wordAt i (s.get i)] := by
 rw [List.take_add_one, told_at hi]; rfl
theorem word_len {p : Nat} {g : Int} : (wordAt p g).length ≤ 7 := by
 have h1 : ∀ x ∈ earW, x.length ≤ 7 := by decide
 have h2 : ∀ x ∈ colW, x.length ≤ 7 := by decide
 unfold wordAt wordsW
 split
 ·decide
 split
 ·cases e : earW[g.toNat]? with
  | none => exact Nat.zero_le _
  | some x => exact h1 x (List.mem_of_getElem? e)
 cases e : colW[g.toNat]? with
 | none => exact Nat.zero_le _
 | some x => exact h2 x (List.mem_of_getElem? e)
theorem told_small {s : Sg} : (toldW s).length ≤ 100 := by
 have h0 := word_len (p := 0) (g := s.get 0); have h1 := word_len (p := 1) (g := s.get 1); have h2 := word_len (p := 2) (g := s.get 2)
 have h3 := word_len (p := 3) (g := s.get 3); have h4 := word_len (p := 4) (g := s.get 4); have h5 := word_len (p := 5) (g := s.get 5)
 have e : toldL s = [wordAt 0 (s.get 0), wordAt 1 (s.get 1), wordAt 2 (s.get 2), wordAt 3 (s.get 3), wordAt 4 (s.get 4), wordAt 5 (s.get 5)] := rfl
 unfold toldW
 rw [e, Lib.join_length]
 simp only [Lib.lens, List.map_cons, List.map_nil, List.sum_cons, List.sum_nil, List.length_cons, List.length_nil]
 omega

set_option maxHeartbeats 2000000 in
theorem c_told (s : Sg) (hk : SgOk s) (hs : sightB s = true) (w : World) :
  Cl Tryz.prog 131 #[Value.agg (encSg s).toArray] w fun v w' => v = .string (bs (toldW s)) ∧ Bl w w' := by
 refine fn_of_run (args := [_]) 24 Tryz.func131 rfl rfl rfl fun cs => ?_
 have S := Own.startZ (X := nob) w
 refine r_seq ?_
 refine r_region ?_
 refine l_box S rfl rfl ?_
 intro b4 w1 S2 hl3
 refine l_a rfl ?_
 refine l_nil ?_
 refine r_seq ?_
 refine r_region ?_
 refine l_a rfl ?_
 have S5 := S2.nilvec (E := EST)
 refine l_nil ?_
 refine r_seq ?_
 refine r_seq ?_
 refine r_region ?_
 refine l_x rfl (x_load rfl (ld_blks (S5.blk 0 rfl) Tryz.isAgg28 Tryz.sizeOf28 rfl rfl)) ?_
 refine l_m rfl ?_
 refine l_nil ?_
 refine r_block ?_
 refine r_loop (G := Nat × Value) (fun ⟨i, vo⟩ => 6 - i) (fun ⟨i, vo⟩ => [(1, .pointer (some ⟨b4, 0, none⟩)), (3, vo), (7, .agg (encSg s).toArray), (8, Value.int .i64 i)]) (fun ⟨i, vo⟩ w' => (i ≤ 6) ∧ Own nob (undrawn w) w' [blk b4 (encSg s) 28, vec EST vo ((toldL s).take i)]) (0, .slice none 0 0) ⟨rfl, rfl, rfl, rfl, trivial⟩ ⟨Nat.zero_le _, (S5.take 2)⟩ ?_
 rintro ⟨i, vo⟩ ρ w1 ⟨hi, S1⟩ IH
 refine r_seq ?_
 refine r_region ?_
 refine l_x rfl (x_lss rfl rfl) ?_
 refine l_nil ?_
 refine r_seq ?_
 refine r_ifd rfl (fun hc9 => ?_) (fun hc9 => ?_)
 ·skip
  refine r_skip ?_
  refine r_seq ?_
  refine r_block ?_
  refine r_seq ?_
  refine r_region ?_
  refine l_m rfl ?_
  refine l_x rfl (x_part rfl rfl Tryz.runUnderlying28 Tryz.sizeOf5 Tryz.isAgg5 (by omega) (sg_part (i := i) (by omega))) ?_
  refine l_a rfl ?_
  refine l_a rfl ?_
  refine l_nil ?_
  refine r_seq ?_
  refine r_region ?_
  refine l_m rfl ?_
  refine l_call [] [] [_] rfl rfl Tryz.call184 rfl (c_words i _) ?_
  rintro _ w6 ⟨rfl, hl8⟩
  have S7 := S1.stepZ (by first | exact hl8 | exact hl8.bl)
  refine l_x rfl (x_func rfl rfl) ?_
  refine l_a rfl ?_
  refine l_nil ?_
  refine r_region ?_
  refine l_m rfl ?_
  refine l_m rfl ?_
  refine l_m rfl ?_
  refine l_call [_] [] [_, _] rfl rfl Tryz.call185 rfl (c_wword i (s.get i) (sight_at hk hs (by omega)).1 (sight_at hk hs (by omega)).2 _) ?_
  rintro _ w9 ⟨rfl, hl11⟩
  have S10 := S7.stepZ (by first | exact hl11 | exact hl11.bl)
  refine l_buildSlice EST [wordAt i (s.get i)] S10 rfl Tryz.runUnderlying168 Tryz.sizeOf9 Tryz.zeroValue9 rfl ⟨rfl, rfl, trivial⟩ (Nat.le_of_ble_eq_true rfl) ?_
  intro v15 w12 S13 hl14
  refine l_append EST S13 1 rfl rfl rfl rfl (vec_rd (S13.at 2 rfl)) Tryz.underlying168 info9 rfl rfl rfl (by unfold maxLen; rw [List.length_take, toldL_len, List.length_singleton]; omega) (by rw [List.length_take, toldL_len, List.length_singleton]; show _ * 16 ≤ _; omega) ?_
  intro v19 w16 S17 hk18 hv20
  refine l_a rfl ?_
  refine l_nil ?_
  refine r_inBlock ?_
  refine r_region ?_
  refine l_x rfl (x_add rfl rfl (by omega)) ?_
  refine l_m rfl ?_
  refine l_nil ?_
  exact IH (i + 1, v19) _ _ (by dsimp only; omega) ⟨rfl, rfl, rfl, rfl, trivial⟩ ⟨by omega, (by have h := S17.pick (L' := [_, _]) [0, 1] (by decide) rfl; have e := told_step (s := s) (i := i) (by omega); rw [← e] at h; exact h)⟩
 obtain rfl : i = 6 := by omega
 have htk : (toldL s).take 6 = toldL s := List.take_of_length_le (by rw [toldL_len]; omega)
 rw [htk] at S1
 refine r_exit rfl ?_
 refine r_seq ?_
 refine r_region ?_
 refine l_m rfl ?_
 refine l_call [] [] [_, _] rfl rfl Tryz.call186 rfl (c_Join (toldL s) _ (by intro e; have := toldL_len (t := s); rw [e] at this; cases this) (by rw [toldL_len]; omega) (by have := told_small (s := s); unfold toldW at this; omega) _ (vec_rd (S1.at 1 rfl))) ?_
 rintro _ w21 ⟨rfl, hl23⟩
 have S22 := S1.stepZ (by first | exact hl23 | exact hl23.bl)
 refine l_a rfl ?_
 refine l_nil ?_
 refine r_ret (rs := [.tmp 2]) [_] Tryz.func131 rfl ⟨rfl, trivial⟩ ?_
 exact ⟨rfl, S22.le⟩

end Go.Proofs

namespace Go.Proofs
open Go Go.Vk Go.Vk.Flow

open Go.Vk.Mark
open Go.Vk.Deed (i64 rng rng_iff owners sumI sumI_cons sumI_snoc)
open Go.RowKit

theorem write_cat {k : Mk} : Lib.itoa k.owner ++ [32] ++ Lib.itoa k.frm ++ [32] ++ Lib.itoa k.til ++ [32] ++ toldW k.s = writeW k := by
 unfold writeW writeL toldW
 cases e : toldL k.s with
 | nil => have := toldL_len (t := k.s); rw [e] at this; cases this
 | cons x xs =>
  show _ = Lib.join (Lib.itoa k.owner :: Lib.itoa k.frm :: Lib.itoa k.til :: x :: xs) [32]
  rw [Lib.join_cons, Lib.join_cons, tail_cons, tail_cons, tail_cons]
  simp [List.append_assoc]
theorem itoa_len {n : Int} (h : 0 ≤ n) (h2 : n < 1000000000) : (Lib.itoa n).length ≤ 9 := by
 have := val_itoa h h2
 unfold valS at this
 split at this
 ·omega
 omega

set_option maxHeartbeats 2000000 in
theorem c_Write (k : Mk) (hk : MkOk k) (w : World) (hG : Gl2 w) :
  Cl Tryz.prog 64 #[Value.agg (encMk k).toArray] w fun v w' => (markB k = false ∧ v = .tuple #[.string (bs []), .int .i64 1] ∧ Bl w w') ∨ (markB k = true ∧ v = .tuple #[.string (bs (writeW k)), .int .i64 0] ∧ Bl w w') := by
 refine fn_of_run (args := [_]) 25 Tryz.func64 rfl rfl rfl fun cs => ?_
 have S := Own.startZ (X := nob) w
 refine r_seq ?_
 refine r_region ?_
 refine l_box S rfl rfl ?_
 intro b4 w1 S2 hl3
 refine l_a rfl ?_
 refine l_a rfl ?_
 refine l_nil ?_
 refine r_seq ?_
 refine r_seq ?_
 refine r_region ?_
 refine l_x rfl (x_load rfl (ld_blks (S2.blk 0 rfl) Tryz.isAgg39 Tryz.sizeOf39 rfl rfl)) ?_
 refine l_call [] [] [_] rfl rfl Tryz.call83 rfl (c_isMark _ _) ?_
 rintro _ w5 ⟨rfl, hl7⟩
 have S6 := S2.stepZ (by first | exact hl7 | exact hl7.bl)
 refine l_x rfl (x_not rfl) ?_
 refine l_nil ?_
 refine r_if rfl (fun hc6 => ?_) (fun hc6 => ?_)
 ·skip
  refine r_seq ?_
  refine r_region ?_
  refine l_a rfl ?_
  refine l_a rfl ?_
  refine l_nil ?_
  refine r_ret (rs := [.tmp 2, .tmp 3]) [_, _] Tryz.func64 rfl ⟨rfl, rfl, trivial⟩ ?_
  exact .inl ⟨by simpa using hc6, rfl, S6.le⟩
 have hmb : markB k = true := by simpa using hc6
 obtain ⟨g1, g2, g3⟩ := mark_parts hmb
 have n1 := itoa_len (n := k.owner) (by omega) (by omega)
 have n2 := itoa_len (n := k.frm) (by omega) (by omega)
 have n3 := itoa_len (n := k.til) (by omega) (by omega)
 have n4 := told_small (s := k.s)
 refine r_skip ?_
 refine r_seq ?_
 refine r_drawZ 18 Tryz.mixed (by kernel_rfl) ?_
 refine z_x rfl (fun w1 h1 => x_fieldAddr rfl Tryz.runUnderlying39 rfl Tryz.sizeOf3 (by decide)) ?_
 refine z_x rfl (fun w1 h1 => x_load rfl (ld_blk ((S6.stepZ h1).blk 0 rfl) Tryz.isAgg3 rfl)) ?_
 refine zd_call [] [] [_] rfl rfl Tryz.call130 rfl (fun w1 h1 => c_ItoaB k.owner (by omega) _ (hG.bl (S6.stepZ h1).le)) ?_
 refine z_x rfl (fun w1 h1 => x_addbs (a := Lib.itoa k.owner) (b := [32]) rfl rfl (by simp only [List.length_append, List.length_singleton]; omega)) ?_
 refine z_x rfl (fun w1 h1 => x_fieldAddr rfl Tryz.runUnderlying39 rfl Tryz.sizeOf3 (by decide)) ?_
 refine z_x rfl (fun w1 h1 => x_load rfl (ld_blk ((S6.stepZ h1).blk 0 rfl) Tryz.isAgg3 rfl)) ?_
 refine zd_call [] [] [_] rfl rfl Tryz.call130 rfl (fun w1 h1 => c_ItoaB k.frm (by omega) _ (hG.bl (S6.stepZ h1).le)) ?_
 refine z_x rfl (fun w1 h1 => x_addbs (a := (Lib.itoa k.owner ++ [32])) (b := Lib.itoa k.frm) rfl rfl (by simp only [List.length_append, List.length_singleton]; omega)) ?_
 refine z_x rfl (fun w1 h1 => x_addbs (a := ((Lib.itoa k.owner ++ [32]) ++ Lib.itoa k.frm)) (b := [32]) rfl rfl (by simp only [List.length_append, List.length_singleton]; omega)) ?_
 refine z_x rfl (fun w1 h1 => x_fieldAddr rfl Tryz.runUnderlying39 rfl Tryz.sizeOf3 (by decide)) ?_
 refine z_x rfl (fun w1 h1 => x_load rfl (ld_blk ((S6.stepZ h1).blk 0 rfl) Tryz.isAgg3 rfl)) ?_
 refine zd_call [] [] [_] rfl rfl Tryz.call130 rfl (fun w1 h1 => c_ItoaB k.til (by omega) _ (hG.bl (S6.stepZ h1).le)) ?_
 refine z_x rfl (fun w1 h1 => x_addbs (a := (((Lib.itoa k.owner ++ [32]) ++ Lib.itoa k.frm) ++ [32])) (b := Lib.itoa k.til) rfl rfl (by simp only [List.length_append, List.length_singleton]; omega)) ?_
 refine z_x rfl (fun w1 h1 => x_addbs (a := ((((Lib.itoa k.owner ++ [32]) ++ Lib.itoa k.frm) ++ [32]) ++ Lib.itoa k.til)) (b := [32]) rfl rfl (by simp only [List.length_append, List.length_singleton]; omega)) ?_
 refine z_x rfl (fun w1 h1 => x_fieldAddr rfl Tryz.runUnderlying39 rfl Tryz.sizeOf28 (by decide)) ?_
 refine z_x rfl (fun w1 h1 => x_load rfl (ld_blks ((S6.stepZ h1).blk 0 rfl) Tryz.isAgg28 Tryz.sizeOf28 rfl rfl)) ?_
 refine zd_call [] [] [_] rfl rfl Tryz.call131 rfl (fun w1 h1 => c_told k.s hk.s (clear_sight g3) _) ?_
 refine z_x rfl (fun w1 h1 => x_addbs (a := (((((Lib.itoa k.owner ++ [32]) ++ Lib.itoa k.frm) ++ [32]) ++ Lib.itoa k.til) ++ [32])) (b := (toldW k.s)) rfl rfl (by simp only [List.length_append, List.length_singleton]; omega)) ?_
 refine z_nil ?_
 intro w8 hl9
 have S10 := S6.stepZ (by first | exact hl9 | exact hl9.bl)
 refine l_a rfl ?_
 refine l_a rfl ?_
 refine l_nil ?_
 refine r_ret (rs := [.tmp 2, .tmp 3]) [_, _] Tryz.func64 rfl ⟨rfl, rfl, trivial⟩ ?_
 exact .inr ⟨hmb, congrArg (fun q => Value.tuple #[.string (bs q), .int .i64 0]) write_cat, S10.le⟩

set_option maxHeartbeats 1000000 in
theorem c_WriteSight (s : Sg) (hk : SgOk s) (w : World) :
  Cl Tryz.prog 68 #[Value.agg (encSg s).toArray] w fun v w' => (sightB s = false ∧ v = .tuple #[.string (bs []), .int .i64 1] ∧ Bl w w') ∨ (sightB s = true ∧ v = .tuple #[.string (bs (toldW s)), .int .i64 0] ∧ Bl w w') := by
 refine fn_of_run (args := [_]) 10 Tryz.func68 rfl rfl rfl fun cs => ?_
 have S := Own.startZ (X := nob) w
 refine r_seq ?_
 refine r_region ?_
 refine l_box S rfl rfl ?_
 intro b4 w1 S2 hl3
 refine l_a rfl ?_
 refine l_a rfl ?_
 refine l_nil ?_
 refine r_seq ?_
 refine r_seq ?_
 refine r_region ?_
 refine l_x rfl (x_load rfl (ld_blks (S2.blk 0 rfl) Tryz.isAgg30 Tryz.sizeOf30 rfl rfl)) ?_
 refine l_call [] [] [_] rfl rfl Tryz.call79 rfl (c_isSight _ _) ?_
 rintro _ w5 ⟨rfl, hl7⟩
 have S6 := S2.stepZ (by first | exact hl7 | exact hl7.bl)
 refine l_x rfl (x_not rfl) ?_
 refine l_nil ?_
 refine r_if rfl (fun hc6 => ?_) (fun hc6 => ?_)
 ·skip
  refine r_seq ?_
  refine r_region ?_
  refine l_a rfl ?_
  refine l_a rfl ?_
  refine l_nil ?_
  refine r_ret (rs := [.tmp 2, .tmp 3]) [_, _] Tryz.func68 rfl ⟨rfl, rfl, trivial⟩ ?_
  exact .inl ⟨by simpa using hc6, rfl, S6.le⟩
 refine r_skip ?_
 refine r_seq ?_
 refine r_region ?_
 refine l_x rfl (x_fieldAddr rfl Tryz.runUnderlying30 rfl Tryz.sizeOf28 (by decide)) ?_
 refine l_x rfl (x_load rfl (ld_blks (S6.blk 0 rfl) Tryz.isAgg28 Tryz.sizeOf28 rfl rfl)) ?_
 refine l_call [] [] [_] rfl rfl Tryz.call131 rfl (c_told s hk (by simpa using hc6) _) ?_
 rintro _ w8 ⟨rfl, hl10⟩
 have S9 := S6.stepZ (by first | exact hl10 | exact hl10.bl)
 refine l_a rfl ?_
 refine l_a rfl ?_
 refine l_nil ?_
 refine r_ret (rs := [.tmp 2, .tmp 3]) [_, _] Tryz.func68 rfl ⟨rfl, rfl, trivial⟩ ?_
 exact .inr ⟨by simpa using hc6, rfl, S9.le⟩

end Go.Proofs

namespace Go.Proofs
open Go Go.Vk Go.Vk.Flow

open Go.Vk.Mark
open Go.Vk.Deed (i64 rng rng_iff owners sumI sumI_cons sumI_snoc)
open Go.RowKit

theorem num_ok {s : List UInt8} {n : Int} (h : Lib.atoiAll s = .ok n) (h2 : Lib.itoa n = s) : numW s = some n := by unfold numW; rw [h]; exact if_pos h2
theorem num_bad {s : List UInt8} {n : Int} (h : Lib.atoiAll s = .ok n) (h2 : ¬ Lib.itoa n = s) : numW s = none := by unfold numW; rw [h]; exact if_neg h2
theorem num_err {s : List UInt8} (h : ∀ k, Lib.atoiAll s ≠ .ok k) : numW s = none := by
 unfold numW
 split
 ·rename_i n e; exact absurd e (h n)
 rfl
theorem atoi_rng {s : List UInt8} {n : Int} (h : Lib.atoiAll s = .ok n) : -9223372036854775808 ≤ n ∧ n ≤ 9223372036854775807 := by
 unfold Lib.atoiAll at h
 split at h
 ·cases h
 simp only at h
 split at h
 ·cases h
 ·cases h
 split at h
 ·cases h
 split at h
 ·cases h
 injection h with h
 subst h
 split <;> omega
theorem rd_len {l : List UInt8} (h : ¬ (splitW l).length = 9) : readW l = none := if_neg h
theorem rc_none {l : List (List UInt8)} (h : numW (l.getD 0 []) = none ∨ numW (l.getD 1 []) = none ∨ numW (l.getD 2 []) = none ∨ seenW (l.drop 3) = none) : readC l = none := by
 unfold readC
 split
 ·rename_i a b c s h1 h2 h3 h4
  rcases h with h | h | h | h
  ·rw [h] at h1; cases h1
  ·rw [h] at h2; cases h2
  ·rw [h] at h3; cases h3
  rw [h] at h4; cases h4
 rfl
theorem rd_none {l : List UInt8} (h : numW ((splitW l).getD 0 []) = none ∨ numW ((splitW l).getD 1 []) = none ∨ numW ((splitW l).getD 2 []) = none ∨ seenW ((splitW l).drop 3) = none) : readW l = none := by
 unfold readW
 rw [rc_none h]
 split <;> rfl
theorem rd_some {l : List UInt8} {a b c : Int} {s : Sg} (hl : (splitW l).length = 9) (h0 : numW ((splitW l).getD 0 []) = some a) (h1 : numW ((splitW l).getD 1 []) = some b) (h2 : numW ((splitW l).getD 2 []) = some c) (h3 : seenW ((splitW l).drop 3) = some s) : readW l = if markB ⟨a, b, c, s⟩ = true then some ⟨a, b, c, s⟩ else none := by
 unfold readW readC
 rw [if_pos hl, h0, h1, h2, h3]
 rfl
theorem getD_at {l : List (List UInt8)} {i : Nat} {x : List UInt8} (h : l[i]? = some x) : l.getD i [] = x := by rw [List.getD_eq_getElem?_getD, h]; rfl

theorem c_numberB (s : List UInt8) (hs : s.length ≤ 1000) (w : World) (hG : Gl2 w) :
  Cp Tryz.prog 137 #[.string (bs s)] w (fun v w' => ∃ n, v = .int .i64 n ∧ numW s = some n ∧ Bl w w') (fun v w' => v = (.iface 211 (.agg #[])) ∧ numW s = none ∧ Bl w w') := by
 refine fn_of_runP (args := [_]) 20 Tryz.func137 rfl rfl rfl fun cs => ?_
 have S := Own.startZ (X := nob) w
 refine r_seq ?_
 refine r_region ?_
 refine l_a rfl ?_
 refine l_nil ?_
 refine r_seq ?_
 refine r_region ?_
 refine l_m rfl ?_
 refine l_call [] [] [_] rfl rfl Tryz.call189 rfl (c_Atoi s hs _ (hG.bl S.le)) ?_
 rintro _ w1 (⟨n9, hn9, rfl, hl71⟩ | ⟨n9, T9, x9, hx9, rfl, hl71⟩)
 ·skip
  have S2 := S.stepZ (by first | exact hl71 | exact hl71.bl)
  have hr9 := atoi_rng hn9
  refine l_m rfl ?_
  refine l_x rfl (x_extract rfl rfl) ?_
  refine l_x rfl (x_extract rfl rfl) ?_
  refine l_a rfl ?_
  refine l_a rfl ?_
  refine l_nil ?_
  refine r_seq ?_
  refine r_region ?_
  refine l_m rfl ?_
  refine l_x rfl (x_niliface Tryz.runUnderlying214 rfl rfl (.inl rfl) rfl) ?_
  refine l_m rfl ?_
  refine l_m rfl ?_
  refine l_call [] [] [_] rfl rfl Tryz.call130 rfl (c_Itoa n9 hr9 _ (hG.bl S2.le)) ?_
  rintro _ w3 ⟨rfl, hl5⟩
  have S4 := S2.stepZ (by first | exact hl5 | exact hl5.bl)
  refine l_m rfl ?_
  refine l_x rfl (x_eqbs (a := Lib.itoa n9) (b := s) rfl rfl) ?_
  refine l_x rfl (x_pick_t rfl rfl) ?_
  refine l_callP [] [] [_] rfl rfl Tryz.call136 rfl (c_unless _ _) ?_ ?_
  ·skip
   rintro _ w6 ⟨hok18, hl7⟩
   have S8 := S4.stepZ (by first | exact hl7 | exact hl7.bl)
   refine l_nil ?_
   refine r_seq ?_
   refine r_region ?_
   refine l_m rfl ?_
   refine l_a rfl ?_
   refine l_nil ?_
   refine p_ret (rs := [.tmp 2]) [_] Tryz.func137 rfl ⟨rfl, trivial⟩ ?_
   exact ⟨n9, rfl, num_ok hn9 (of_decide_eq_true hok18), S8.le⟩
  rintro _ w9 k ⟨hko, rfl, hl10⟩
  have S11 := S4.stepZ (by first | exact hl10 | exact hl10.bl)
  exact leaveU_panic Tryz.func137 ⟨rfl, num_bad hn9 (of_decide_eq_false hko), S11.le⟩
 have S12 := S.stepZ (by first | exact hl71 | exact hl71.bl)
 refine l_m rfl ?_
 refine l_x rfl (x_extract rfl rfl) ?_
 refine l_x rfl (x_extract rfl rfl) ?_
 refine l_a rfl ?_
 refine l_a rfl ?_
 refine l_nil ?_
 refine r_seq ?_
 refine r_region ?_
 refine l_m rfl ?_
 refine l_x rfl (x_niliface Tryz.runUnderlying214 rfl rfl (.inr ⟨_, _, rfl⟩) rfl) ?_
 refine l_m rfl ?_
 refine l_pass rfl ?_
 refine l_pass rfl ?_
 refine l_pass rfl ?_
 refine l_pass rfl ?_
 refine l_x rfl (x_pick_f rfl rfl) ?_
 refine l_callP [] [] [_] rfl rfl Tryz.call136 rfl (c_unless _ _) ?_ ?_
 ·skip
  rintro _ _ ⟨hok18, _⟩
  cases hok18
 rintro _ w13 k ⟨hko, rfl, hl14⟩
 have S15 := S12.stepZ (by first | exact hl14 | exact hl14.bl)
 exact leaveU_panic Tryz.func137 ⟨rfl, num_err hx9, S15.le⟩

theorem c_unlessT (ok : Bool) (hok : ok = true) (w : World) :
  Cl Tryz.prog 136 #[.bool ok] w fun _ w' => Le w w' := by
 refine fn_of_run (args := [_]) 6 Tryz.func136 rfl rfl rfl fun cs => ?_
 have S := Own.start (X := nob) w
 refine r_seq ?_
 refine r_region ?_
 refine l_m rfl ?_
 refine l_x rfl (x_not rfl) ?_
 refine l_nil ?_
 refine r_if rfl (fun hc3 => ?_) (fun hc3 => ?_)
 ·exact absurd hok (by simpa using hc3)
 refine r_skip ?_
 refine r_end (rs := []) [] Tryz.func136 rfl trivial ?_
 exact S.le

theorem itoa_eq {s : List UInt8} {n k : Int} (h : Lib.atoiAll s = .ok n) (h2 : numW s = some k) : Lib.itoa n = s := by
 unfold numW at h2
 rw [h] at h2
 simp only at h2
 split at h2
 ·assumption
 cases h2
theorem num_n {s : List UInt8} {n k : Int} (h : Lib.atoiAll s = .ok n) (h2 : numW s = some k) : n = k := by
 have := num_ok h (itoa_eq h h2)
 rw [this] at h2
 exact Option.some.inj h2

theorem c_numberS (s : List UInt8) (hs : s.length ≤ 1000) (n : Int) (hn : numW s = some n) (w : World) (hG : Gl2 w) :
  Cl Tryz.prog 137 #[.string (bs s)] w fun v w' => v = .int .i64 n ∧ Le w w' := by
 refine fn_of_run (args := [_]) 20 Tryz.func137 rfl rfl rfl fun cs => ?_
 have S := Own.start (X := nob) w
 refine r_seq ?_
 refine r_region ?_
 refine l_a rfl ?_
 refine l_nil ?_
 refine r_seq ?_
 refine r_region ?_
 refine l_m rfl ?_
 refine l_call [] [] [_] rfl rfl Tryz.call189 rfl (c_Atoi s hs _ (hG.bl S.le.bl)) ?_
 rintro _ w1 (⟨n9, hn9, rfl, hl71⟩ | ⟨n9, T9, x9, hx9, rfl, hl71⟩)
 ·skip
  have S2 := S.step hl71
  have hr9 := atoi_rng hn9
  refine l_m rfl ?_
  refine l_x rfl (x_extract rfl rfl) ?_
  refine l_x rfl (x_extract rfl rfl) ?_
  refine l_a rfl ?_
  refine l_a rfl ?_
  refine l_nil ?_
  refine r_seq ?_
  refine r_region ?_
  refine l_m rfl ?_
  refine l_x rfl (x_niliface Tryz.runUnderlying214 rfl rfl (.inl rfl) rfl) ?_
  refine l_m rfl ?_
  refine l_m rfl ?_
  refine l_call [] [] [_] rfl rfl Tryz.call130 rfl (c_Itoa n9 hr9 _ (hG.bl S2.le.bl)) ?_
  rintro _ w3 ⟨rfl, hl5⟩
  have S4 := S2.step hl5
  refine l_m rfl ?_
  refine l_x rfl (x_eqbs (a := Lib.itoa n9) (b := s) rfl rfl) ?_
  refine l_x rfl (x_pick_t rfl rfl) ?_
  refine l_call [] [] [_] rfl rfl Tryz.call136 rfl (c_unlessT _ (decide_eq_true (itoa_eq hn9 hn)) _) ?_
  rintro _ w6 hl7
  have S8 := S4.step hl7
  refine l_nil ?_
  refine r_seq ?_
  refine r_region ?_
  refine l_m rfl ?_
  refine l_a rfl ?_
  refine l_nil ?_
  refine r_ret (rs := [.tmp 2]) [_] Tryz.func137 rfl ⟨rfl, trivial⟩ ?_
  exact ⟨congrArg (Value.int .i64) (num_n hn9 hn), S8.le⟩
 rw [num_err hx9] at hn; cases hn

theorem c_number (s : List UInt8) (hs : s.length ≤ 1000) (w : World) (hG : Gl2 w) : Cp Tryz.prog 137 #[.string (bs s)] w (fun v w' => ∃ n, v = .int .i64 n ∧ numW s = some n ∧ Le w w') (fun v w' => v = (.iface 211 (.agg #[])) ∧ numW s = none ∧ Bl w w') := by
 cases e : numW s with
 | some n => exact ((c_numberS s hs n e w hG).mono fun v w' h => show ∃ k, v = .int .i64 k ∧ some n = some k ∧ Le w w' from ⟨n, h.1, rfl, h.2⟩).cp
 | none => exact (c_numberB s hs w hG).mono (fun v w' ⟨n, _, h, _⟩ => by rw [e] at h; cases h) (fun v w' h => ⟨h.1, rfl, h.2.2⟩)

end Go.Proofs

namespace Go.Proofs
open Go Go.Vk Go.Vk.Flow

open Go.Vk.Mark
open Go.Vk.Deed (i64 rng rng_iff owners sumI sumI_cons sumI_snoc)
open Go.RowKit

theorem split_len9 {l x : List UInt8} (h : x ∈ splitW l) : x.length ≤ l.length := by
 rw [split_L] at h
 have key : ∀ (l : List UInt8), ∀ x ∈ splitL l, x.length ≤ l.length := by
  intro l
  induction l with
  | nil => intro x hx; simp [splitL] at hx; subst hx; exact Nat.le_refl _
  | cons c r ih =>
   intro x hx
   rw [splitL] at hx
   split at hx
   ·rcases List.mem_cons.1 hx with rfl | hx
    ·exact Nat.zero_le _
    have := ih x hx; rw [List.length_cons]; omega
   cases e : splitL r with
   | nil => exact absurd e (splitL_ne r)
   | cons y ys =>
    rw [e] at hx ih
    rcases List.mem_cons.1 hx with rfl | hx
    ·have := ih y List.mem_cons_self; rw [List.length_cons, List.length_cons]; omega
    have := ih x (List.mem_cons_of_mem _ hx); rw [List.length_cons]; omega
 exact key l x h

set_option maxHeartbeats 8000000 in
theorem c_Read (line : List UInt8) (hln : line.length ≤ 900) (w : World) (hG : Gl2 w) :
  Cl Tryz.prog 66 #[.string (bs line)] w fun v w' => v = .tuple #[Value.agg (encMk ((readW line).getD zeroMk)).toArray, .int .i64 (if (readW line).isSome = true then 0 else 4)] ∧ Bl w w' := by
 refine fn_of_run (args := [_]) 33 Tryz.func66 rfl rfl rfl fun cs => ?_
 have S := Own.startZ (X := nob) w
 refine r_seq ?_
 refine r_region ?_
 refine l_alloc S rfl Tryz.zeroValue39 rfl ?_
 intro b4 w1 S2 hl3
 refine l_alloc S2 rfl Tryz.zeroValue31 rfl ?_
 intro b8 w5 S6 hl7
 refine l_nil ?_
 refine r_seq ?_
 refine r_region ?_
 refine l_defer [] [] [_] rfl rfl rfl rfl ?_
 refine l_nil ?_
 refine r_seq ?_
 refine r_region ?_
 refine l_m rfl ?_
 refine l_call [] [] [_, _] rfl rfl Tryz.call135 rfl (c_Split line (by omega) _ (hG.bl S6.le).g) ?_
 rintro v79 w9 ⟨hN79, hl79, hsl79⟩
 have S10 := S6.add hl79 hN79
 have hsl9 := hsl79
 refine l_a rfl ?_
 refine l_nil ?_
 refine r_seq ?_
 refine r_region ?_
 refine l_m rfl ?_
 refine l_x rfl (x_len (vec_rd (S10.at 2 rfl)) rfl Tryz.runUnderlying168) ?_
 refine l_x rfl (x_eql rfl rfl) ?_
 refine l_callP [] [] [_] rfl rfl Tryz.call136 rfl (c_unless _ _) ?_ ?_
 ·skip
  rintro _ w11 ⟨hok11, hl12⟩
  have S13 := S10.stepZ (by first | exact hl12 | exact hl12.bl)
  have hl9 : (splitW line).length = 9 := by have := of_decide_eq_true hok11; omega
  refine l_nil ?_
  refine r_seq ?_
  obtain ⟨x0, h0⟩ : ∃ x, (splitW line)[0]? = some x := ⟨_, List.getElem?_eq_getElem (by omega)⟩
  have hx0 := split_len9 (List.mem_of_getElem? h0)
  obtain ⟨x1, h1⟩ : ∃ x, (splitW line)[1]? = some x := ⟨_, List.getElem?_eq_getElem (by omega)⟩
  have hx1 := split_len9 (List.mem_of_getElem? h1)
  obtain ⟨x2, h2⟩ : ∃ x, (splitW line)[2]? = some x := ⟨_, List.getElem?_eq_getElem (by omega)⟩
  have hx2 := split_len9 (List.mem_of_getElem? h2)
  refine r_drawI (Q := fun v w' => v = (.iface 211 (.agg #[])) ∧ readW line = none ∧ Own nob (undrawn w) w' [blk b4 (encMk zeroMk) 39, blk b8 [.int .i64 0] 31]) 14 nob (fun ρ => ρ 2 = .pointer (some ⟨b4, 0, none⟩) ∧ ρ 3 = .pointer (some ⟨b8, 0, none⟩)) ⟨rfl, rfl⟩ (I_keep (by decide +kernel)) Tryz.mixed (by kernel_rfl) ?_ ?_
  ·rintro ρ v w3 k3 ⟨hi2, hi3⟩ ⟨rfl, hs9, Sq⟩
   refine leave_defer rfl Tryz.call134 (by intro h; cases h) ?_
   change Dl _ _ #[.pointer (some ⟨b8, 0, none⟩)] _ _ _
   refine (c_caught1 _ 0 _ (Sq.lend 1 rfl)).mono ?_
   rintro _ wl ⟨rfl, hl2⟩
   have Sl := Sq.back 1 rfl hl2
   refine leaveU_done (rs := [.cell 2 39, .cell 3 31]) [_, _] Tryz.func66 rfl ⟨⟨_, hi2, (ld_blks (Sl.blk 0 rfl) Tryz.isAgg39 Tryz.sizeOf39 rfl rfl)⟩, ⟨_, hi3, (ld_blk (Sl.blk 1 rfl) Tryz.isAgg31 rfl)⟩, trivial⟩ ?_
   exact ⟨by rw [hs9]; rfl, Sl.le⟩
  intro w14 hl15
  have S16 := S13.stepZ (by first | exact hl15 | exact hl15.bl)
  refine p_exact 0 _ (by kernel_rfl) rfl rfl (by kernel_rfl) rfl (ex_x rfl (fun w1 h8 => x_mv rfl)) ?_
  refine p_index EST 1 (by kernel_rfl) rfl rfl (by kernel_rfl) rfl rfl (vec_rd (S16.at 2 rfl)) rfl rfl Tryz.runUnderlying168 Tryz.sizeOf9 (by decide) h0 ?_
  intro b17 o18 hat19
  refine p_exact 2 _ (by kernel_rfl) rfl rfl (by kernel_rfl) rfl (ex_x rfl (fun w1 h8 => x_load rfl (ld_cell Tryz.isAgg9 ((rd_row (vec_rd ((S16.step h8).at 2 rfl)) hat19 h0) 0 _ rfl)))) ?_
  refine p_exact 4 _ (by kernel_rfl) rfl rfl (by kernel_rfl) rfl (ex_x rfl (fun w1 h8 => x_mv rfl)) ?_
  refine p_index EST 5 (by kernel_rfl) rfl rfl (by kernel_rfl) rfl rfl (vec_rd (S16.at 2 rfl)) rfl rfl Tryz.runUnderlying168 Tryz.sizeOf9 (by decide) h1 ?_
  intro b20 o21 hat22
  refine p_exact 6 _ (by kernel_rfl) rfl rfl (by kernel_rfl) rfl (ex_x rfl (fun w1 h8 => x_load rfl (ld_cell Tryz.isAgg9 ((rd_row (vec_rd ((S16.step h8).at 2 rfl)) hat22 h1) 0 _ rfl)))) ?_
  refine p_exact 8 _ (by kernel_rfl) rfl rfl (by kernel_rfl) rfl (ex_x rfl (fun w1 h8 => x_mv rfl)) ?_
  refine p_index EST 9 (by kernel_rfl) rfl rfl (by kernel_rfl) rfl rfl (vec_rd (S16.at 2 rfl)) rfl rfl Tryz.runUnderlying168 Tryz.sizeOf9 (by decide) h2 ?_
  intro b23 o24 hat25
  refine p_exact 10 _ (by kernel_rfl) rfl rfl (by kernel_rfl) rfl (ex_x rfl (fun w1 h8 => x_load rfl (ld_cell Tryz.isAgg9 ((rd_row (vec_rd ((S16.step h8).at 2 rfl)) hat25 h2) 0 _ rfl)))) ?_
  refine p_next [3, 13] (by kernel_rfl) (by kernel_rfl) ⟨⟨_, _, rfl, rfl, ?_⟩, ⟨_, _, rfl, rfl, ?_⟩, trivial⟩
  ·skip
   refine sp_callP [] [] [_] rfl rfl Tryz.call137 rfl ((c_number x0 (by omega) _ (hG.bl S16.le)).mono ?_ ?_)
   ·skip
    rintro _ w26 ⟨n0, rfl, hn0, hl28⟩
    rw [← getD_at h0] at hn0
    have S27 := S16.stepZ (by first | exact hl28 | exact hl28.bl)
    refine ⟨.of_le hl28, ?_⟩
    refine p_next [7, 13] (by kernel_rfl) (by kernel_rfl) ⟨⟨_, _, rfl, rfl, ?_⟩, ⟨_, _, rfl, rfl, ?_⟩, trivial⟩
    ·skip
     refine sp_callP [] [] [_] rfl rfl Tryz.call137 rfl ((c_number x1 (by omega) _ (hG.bl S27.le)).mono ?_ ?_)
     ·skip
      rintro _ w29 ⟨n1, rfl, hn1, hl31⟩
      rw [← getD_at h1] at hn1
      have S30 := S27.stepZ (by first | exact hl31 | exact hl31.bl)
      refine ⟨.of_le hl31, ?_⟩
      refine p_next [11, 13] (by kernel_rfl) (by kernel_rfl) ⟨⟨_, _, rfl, rfl, ?_⟩, ⟨_, _, rfl, rfl, ?_⟩, trivial⟩
      ·skip
       refine sp_callP [] [] [_] rfl rfl Tryz.call137 rfl ((c_number x2 (by omega) _ (hG.bl S30.le)).mono ?_ ?_)
       ·skip
        rintro _ w32 ⟨n2, rfl, hn2, hl34⟩
        rw [← getD_at h2] at hn2
        have S33 := S30.stepZ (by first | exact hl34 | exact hl34.bl)
        refine ⟨.of_le hl34, ?_⟩
        refine p_exact 12 _ (by kernel_rfl) rfl rfl (by kernel_rfl) rfl (ex_x rfl (fun w1 h8 => x_buildS (out := [_, _, _, _, _, _, _, _, _]) (ss := [1, 1, 1, 6]) Tryz.zeroValue39 rfl Tryz.runUnderlying39 ⟨Tryz.sizeOf3, Tryz.sizeOf3, Tryz.sizeOf3, Tryz.sizeOf28, trivial⟩ (fill_cons rfl rfl rfl (Nat.le_of_ble_eq_true rfl) (fill_cons rfl rfl rfl (Nat.le_of_ble_eq_true rfl) (fill_cons rfl rfl rfl (Nat.le_of_ble_eq_true rfl) fill_nil))))) ?_
        refine p_next [13] (by kernel_rfl) (by kernel_rfl) ⟨⟨_, _, rfl, rfl, ?_⟩, trivial⟩
        refine SpP.of (s_alloc S33 rfl Tryz.zeroValue39 rfl ?_)
        intro b38 w35 S36 hl37
        refine ⟨.of_le hl37, ?_⟩
        refine p_done (by kernel_rfl) ?_
        refine l_stores (vs := [_, _, _, _, _, _, _, _, _]) S36 3 rfl rfl rfl rfl (ones_cons rfl (ones_cons rfl (ones_cons rfl (ones_cons rfl (ones_cons rfl (ones_cons rfl (ones_cons rfl (ones_cons rfl (ones_cons rfl ones_nil))))))))) Tryz.sizeOf39 (by first | exact Nat.le_refl _ | simp) (splice_all rfl) ?_
        intro w39 S40 hk41
        refine l_nil ?_
        refine r_seq ?_
        refine r_region ?_
        refine l_m rfl ?_
        refine l_tail S40 2 rfl rfl rfl rfl Tryz.runUnderlying168 Tryz.sizeOf9 (by omega) ?_
        intro v42 ht43
        refine l_callP [] [] [_] rfl rfl Tryz.call138 rfl (c_seen _ ((splitW line).drop 3) (by rw [List.length_drop]; omega) _ (tail_rd ht43 (S40.at 2 rfl))) ?_ ?_
        ·skip
         rintro _ w44 ⟨s9, rfl, hs8, hl45⟩
         have S46 := S40.stepZ (by first | exact hl45 | exact hl45.bl)
         have hrd := rd_some hl9 hn0 hn1 hn2 hs8
         refine l_x rfl (x_fieldAddr rfl Tryz.runUnderlying39 rfl Tryz.sizeOf28 (by decide)) ?_
         refine l_stores (vs := [_, _, _, _, _, _]) S46 3 rfl rfl rfl rfl (ones_cons rfl (ones_cons rfl (ones_cons rfl (ones_cons rfl (ones_cons rfl (ones_cons rfl ones_nil)))))) Tryz.sizeOf28 (by first | exact Nat.le_refl _ | simp) rfl ?_
         intro w47 S48 hk49
         refine l_nil ?_
         refine r_seq ?_
         refine r_region ?_
         refine l_x rfl (x_load rfl (ld_blks (S48.blk 3 rfl) Tryz.isAgg39 Tryz.sizeOf39 rfl rfl)) ?_
         refine l_call [] [] [_] rfl rfl Tryz.call83 rfl (c_isMark ⟨n0, n1, n2, s9⟩ _) ?_
         rintro _ w50 ⟨rfl, hl52⟩
         have S51 := S48.stepZ (by first | exact hl52 | exact hl52.bl)
         refine l_callP [] [] [_] rfl rfl Tryz.call136 rfl (c_unless _ _) ?_ ?_
         ·skip
          rintro _ w53 ⟨hok31, hl54⟩
          have S55 := S51.stepZ (by first | exact hl54 | exact hl54.bl)
          refine l_nil ?_
          refine r_seq ?_
          refine r_region ?_
          refine l_x rfl (x_load rfl (ld_blks (S55.blk 3 rfl) Tryz.isAgg39 Tryz.sizeOf39 rfl rfl)) ?_
          refine l_stores (vs := [_, _, _, _, _, _, _, _, _]) S55 0 rfl rfl rfl rfl (ones_cons rfl (ones_cons rfl (ones_cons rfl (ones_cons rfl (ones_cons rfl (ones_cons rfl (ones_cons rfl (ones_cons rfl (ones_cons rfl ones_nil))))))))) Tryz.sizeOf39 (by first | exact Nat.le_refl _ | simp) (splice_all rfl) ?_
          intro w56 S57 hk58
          refine l_storeq (c' := [_]) S57 1 rfl rfl rfl rfl rfl Tryz.sizeOf31 (by first | (simp; done) | exact Nat.le_of_ble_eq_true rfl) rfl ?_
          intro w59 S60 hk61
          refine l_nil ?_
          refine r_retU rfl ?_
          have hs9 : readW line = some ⟨n0, n1, n2, s9⟩ := by rw [hrd, if_pos hok31]
          refine leave_defer rfl Tryz.call134 (by intro h; cases h) ?_
          change Dl _ _ #[.pointer (some ⟨b8, 0, none⟩)] _ _ _
          refine (c_caught0 _ _).mono ?_
          rintro _ wl ⟨rfl, hll⟩
          have Sl := S60.stepZ (by first | exact hll | exact hll.bl)
          refine leaveU_done (rs := [.cell 2 39, .cell 3 31]) [_, _] Tryz.func66 rfl ⟨⟨_, rfl, (ld_blks (Sl.blk 0 rfl) Tryz.isAgg39 Tryz.sizeOf39 rfl rfl)⟩, ⟨_, rfl, (ld_blk (Sl.blk 1 rfl) Tryz.isAgg31 rfl)⟩, trivial⟩ ?_
          exact ⟨by rw [hs9]; rfl, Sl.le⟩
         rintro _ w62 k ⟨hko, rfl, hl63⟩
         have S64 := S51.stepZ (by first | exact hl63 | exact hl63.bl)
         have hs9 : readW line = none := by rw [hrd, if_neg (by rw [hko]; decide)]
         refine leave_defer rfl Tryz.call134 (by intro h; cases h) ?_
         change Dl _ _ #[.pointer (some ⟨b8, 0, none⟩)] _ _ _
         refine (c_caught1 _ 0 _ (S64.lend 1 rfl)).mono ?_
         rintro _ wl ⟨rfl, hl2⟩
         have Sl := S64.back 1 rfl hl2
         refine leaveU_done (rs := [.cell 2 39, .cell 3 31]) [_, _] Tryz.func66 rfl ⟨⟨_, rfl, (ld_blks (Sl.blk 0 rfl) Tryz.isAgg39 Tryz.sizeOf39 rfl rfl)⟩, ⟨_, rfl, (ld_blk (Sl.blk 1 rfl) Tryz.isAgg31 rfl)⟩, trivial⟩ ?_
         exact ⟨by rw [hs9]; rfl, Sl.le⟩
        rintro _ w65 k ⟨rfl, hs8, hl66⟩
        have S67 := S40.stepZ (by first | exact hl66 | exact hl66.bl)
        have hs9 : readW line = none := rd_none (.inr (.inr (.inr hs8)))
        refine leave_defer rfl Tryz.call134 (by intro h; cases h) ?_
        change Dl _ _ #[.pointer (some ⟨b8, 0, none⟩)] _ _ _
        refine (c_caught1 _ 0 _ (S67.lend 1 rfl)).mono ?_
        rintro _ wl ⟨rfl, hl2⟩
        have Sl := S67.back 1 rfl hl2
        refine leaveU_done (rs := [.cell 2 39, .cell 3 31]) [_, _] Tryz.func66 rfl ⟨⟨_, rfl, (ld_blks (Sl.blk 0 rfl) Tryz.isAgg39 Tryz.sizeOf39 rfl rfl)⟩, ⟨_, rfl, (ld_blk (Sl.blk 1 rfl) Tryz.isAgg31 rfl)⟩, trivial⟩ ?_
        exact ⟨by rw [hs9]; rfl, Sl.le⟩
       rintro _ w32 ⟨rfl, hnn, hl34⟩
       rw [← getD_at h2] at hnn
       exact ⟨rfl, rd_none (.inr (.inr (.inl hnn))), (S30.stepZ hl34).take 2⟩
      refine SpP.of (s_alloc S30 rfl Tryz.zeroValue39 rfl ?_)
      intro b71 w68 S69 hl70
      refine ⟨.of_le hl70, ?_⟩
      refine p_next [11] (by kernel_rfl) (by kernel_rfl) ⟨⟨_, _, rfl, rfl, ?_⟩, trivial⟩
      refine sp_callP [] [] [_] rfl rfl Tryz.call137 rfl ((c_number x2 (by omega) _ (hG.bl S69.le)).mono ?_ ?_)
      ·skip
       rintro _ w72 ⟨n2, rfl, hn2, hl74⟩
       rw [← getD_at h2] at hn2
       have S73 := S69.stepZ (by first | exact hl74 | exact hl74.bl)
       refine ⟨.of_le hl74, ?_⟩
       refine p_exact 12 _ (by kernel_rfl) rfl rfl (by kernel_rfl) rfl (ex_x rfl (fun w1 h8 => x_buildS (out := [_, _, _, _, _, _, _, _, _]) (ss := [1, 1, 1, 6]) Tryz.zeroValue39 rfl Tryz.runUnderlying39 ⟨Tryz.sizeOf3, Tryz.sizeOf3, Tryz.sizeOf3, Tryz.sizeOf28, trivial⟩ (fill_cons rfl rfl rfl (Nat.le_of_ble_eq_true rfl) (fill_cons rfl rfl rfl (Nat.le_of_ble_eq_true rfl) (fill_cons rfl rfl rfl (Nat.le_of_ble_eq_true rfl) fill_nil))))) ?_
       refine p_done (by kernel_rfl) ?_
       refine l_stores (vs := [_, _, _, _, _, _, _, _, _]) S73 3 rfl rfl rfl rfl (ones_cons rfl (ones_cons rfl (ones_cons rfl (ones_cons rfl (ones_cons rfl (ones_cons rfl (ones_cons rfl (ones_cons rfl (ones_cons rfl ones_nil))))))))) Tryz.sizeOf39 (by first | exact Nat.le_refl _ | simp) (splice_all rfl) ?_
       intro w75 S76 hk77
       refine l_nil ?_
       refine r_seq ?_
       refine r_region ?_
       refine l_m rfl ?_
       refine l_tail S76 2 rfl rfl rfl rfl Tryz.runUnderlying168 Tryz.sizeOf9 (by omega) ?_
       intro v78 ht79
       refine l_callP [] [] [_] rfl rfl Tryz.call138 rfl (c_seen _ ((splitW line).drop 3) (by rw [List.length_drop]; omega) _ (tail_rd ht79 (S76.at 2 rfl))) ?_ ?_
       ·skip
        rintro _ w80 ⟨s9, rfl, hs8, hl81⟩
        have S82 := S76.stepZ (by first | exact hl81 | exact hl81.bl)
        have hrd := rd_some hl9 hn0 hn1 hn2 hs8
        refine l_x rfl (x_fieldAddr rfl Tryz.runUnderlying39 rfl Tryz.sizeOf28 (by decide)) ?_
        refine l_stores (vs := [_, _, _, _, _, _]) S82 3 rfl rfl rfl rfl (ones_cons rfl (ones_cons rfl (ones_cons rfl (ones_cons rfl (ones_cons rfl (ones_cons rfl ones_nil)))))) Tryz.sizeOf28 (by first | exact Nat.le_refl _ | simp) rfl ?_
        intro w83 S84 hk85
        refine l_nil ?_
        refine r_seq ?_
        refine r_region ?_
        refine l_x rfl (x_load rfl (ld_blks (S84.blk 3 rfl) Tryz.isAgg39 Tryz.sizeOf39 rfl rfl)) ?_
        refine l_call [] [] [_] rfl rfl Tryz.call83 rfl (c_isMark ⟨n0, n1, n2, s9⟩ _) ?_
        rintro _ w86 ⟨rfl, hl88⟩
        have S87 := S84.stepZ (by first | exact hl88 | exact hl88.bl)
        refine l_callP [] [] [_] rfl rfl Tryz.call136 rfl (c_unless _ _) ?_ ?_
        ·skip
         rintro _ w89 ⟨hok31, hl90⟩
         have S91 := S87.stepZ (by first | exact hl90 | exact hl90.bl)
         refine l_nil ?_
         refine r_seq ?_
         refine r_region ?_
         refine l_x rfl (x_load rfl (ld_blks (S91.blk 3 rfl) Tryz.isAgg39 Tryz.sizeOf39 rfl rfl)) ?_
         refine l_stores (vs := [_, _, _, _, _, _, _, _, _]) S91 0 rfl rfl rfl rfl (ones_cons rfl (ones_cons rfl (ones_cons rfl (ones_cons rfl (ones_cons rfl (ones_cons rfl (ones_cons rfl (ones_cons rfl (ones_cons rfl ones_nil))))))))) Tryz.sizeOf39 (by first | exact Nat.le_refl _ | simp) (splice_all rfl) ?_
         intro w92 S93 hk94
         refine l_storeq (c' := [_]) S93 1 rfl rfl rfl rfl rfl Tryz.sizeOf31 (by first | (simp; done) | exact Nat.le_of_ble_eq_true rfl) rfl ?_
         intro w95 S96 hk97
         refine l_nil ?_
         refine r_retU rfl ?_
         have hs9 : readW line = some ⟨n0, n1, n2, s9⟩ := by rw [hrd, if_pos hok31]
         refine leave_defer rfl Tryz.call134 (by intro h; cases h) ?_
         change Dl _ _ #[.pointer (some ⟨b8, 0, none⟩)] _ _ _
         refine (c_caught0 _ _).mono ?_
         rintro _ wl ⟨rfl, hll⟩
         have Sl := S96.stepZ (by first | exact hll | exact hll.bl)
         refine leaveU_done (rs := [.cell 2 39, .cell 3 31]) [_, _] Tryz.func66 rfl ⟨⟨_, rfl, (ld_blks (Sl.blk 0 rfl) Tryz.isAgg39 Tryz.sizeOf39 rfl rfl)⟩, ⟨_, rfl, (ld_blk (Sl.blk 1 rfl) Tryz.isAgg31 rfl)⟩, trivial⟩ ?_
         exact ⟨by rw [hs9]; rfl, Sl.le⟩
        rintro _ w98 k ⟨hko, rfl, hl99⟩
        have S100 := S87.stepZ (by first | exact hl99 | exact hl99.bl)
        have hs9 : readW line = none := by rw [hrd, if_neg (by rw [hko]; decide)]
        refine leave_defer rfl Tryz.call134 (by intro h; cases h) ?_
        change Dl _ _ #[.pointer (some ⟨b8, 0, none⟩)] _ _ _
        refine (c_caught1 _ 0 _ (S100.lend 1 rfl)).mono ?_
        rintro _ wl ⟨rfl, hl2⟩
        have Sl := S100.back 1 rfl hl2
        refine leaveU_done (rs := [.cell 2 39, .cell 3 31]) [_, _] Tryz.func66 rfl ⟨⟨_, rfl, (ld_blks (Sl.blk 0 rfl) Tryz.isAgg39 Tryz.sizeOf39 rfl rfl)⟩, ⟨_, rfl, (ld_blk (Sl.blk 1 rfl) Tryz.isAgg31 rfl)⟩, trivial⟩ ?_
        exact ⟨by rw [hs9]; rfl, Sl.le⟩
       rintro _ w101 k ⟨rfl, hs8, hl102⟩
       have S103 := S76.stepZ (by first | exact hl102 | exact hl102.bl)
       have hs9 : readW line = none := rd_none (.inr (.inr (.inr hs8)))
       refine leave_defer rfl Tryz.call134 (by intro h; cases h) ?_
       change Dl _ _ #[.pointer (some ⟨b8, 0, none⟩)] _ _ _
       refine (c_caught1 _ 0 _ (S103.lend 1 rfl)).mono ?_
       rintro _ wl ⟨rfl, hl2⟩
       have Sl := S103.back 1 rfl hl2
       refine leaveU_done (rs := [.cell 2 39, .cell 3 31]) [_, _] Tryz.func66 rfl ⟨⟨_, rfl, (ld_blks (Sl.blk 0 rfl) Tryz.isAgg39 Tryz.sizeOf39 rfl rfl)⟩, ⟨_, rfl, (ld_blk (Sl.blk 1 rfl) Tryz.isAgg31 rfl)⟩, trivial⟩ ?_
       exact ⟨by rw [hs9]; rfl, Sl.le⟩
      rintro _ w72 ⟨rfl, hnn, hl74⟩
      rw [← getD_at h2] at hnn
      exact ⟨rfl, rd_none (.inr (.inr (.inl hnn))), (S69.stepZ hl74).take 2⟩
     rintro _ w29 ⟨rfl, hnn, hl31⟩
     rw [← getD_at h1] at hnn
     exact ⟨rfl, rd_none (.inr (.inl hnn)), (S27.stepZ hl31).take 2⟩
    refine SpP.of (s_alloc S27 rfl Tryz.zeroValue39 rfl ?_)
    intro b107 w104 S105 hl106
    refine ⟨.of_le hl106, ?_⟩
    refine p_next [7] (by kernel_rfl) (by kernel_rfl) ⟨⟨_, _, rfl, rfl, ?_⟩, trivial⟩
    refine sp_callP [] [] [_] rfl rfl Tryz.call137 rfl ((c_number x1 (by omega) _ (hG.bl S105.le)).mono ?_ ?_)
    ·skip
     rintro _ w108 ⟨n1, rfl, hn1, hl110⟩
     rw [← getD_at h1] at hn1
     have S109 := S105.stepZ (by first | exact hl110 | exact hl110.bl)
     refine ⟨.of_le hl110, ?_⟩
     refine p_next [11] (by kernel_rfl) (by kernel_rfl) ⟨⟨_, _, rfl, rfl, ?_⟩, trivial⟩
     refine sp_callP [] [] [_] rfl rfl Tryz.call137 rfl ((c_number x2 (by omega) _ (hG.bl S109.le)).mono ?_ ?_)
     ·skip
      rintro _ w111 ⟨n2, rfl, hn2, hl113⟩
      rw [← getD_at h2] at hn2
      have S112 := S109.stepZ (by first | exact hl113 | exact hl113.bl)
      refine ⟨.of_le hl113, ?_⟩
      refine p_exact 12 _ (by kernel_rfl) rfl rfl (by kernel_rfl) rfl (ex_x rfl (fun w1 h8 => x_buildS (out := [_, _, _, _, _, _, _, _, _]) (ss := [1, 1, 1, 6]) Tryz.zeroValue39 rfl Tryz.runUnderlying39 ⟨Tryz.sizeOf3, Tryz.sizeOf3, Tryz.sizeOf3, Tryz.sizeOf28, trivial⟩ (fill_cons rfl rfl rfl (Nat.le_of_ble_eq_true rfl) (fill_cons rfl rfl rfl (Nat.le_of_ble_eq_true rfl) (fill_cons rfl rfl rfl (Nat.le_of_ble_eq_true rfl) fill_nil))))) ?_
      refine p_done (by kernel_rfl) ?_
      refine l_stores (vs := [_, _, _, _, _, _, _, _, _]) S112 3 rfl rfl rfl rfl (ones_cons rfl (ones_cons rfl (ones_cons rfl (ones_cons rfl (ones_cons rfl (ones_cons rfl (ones_cons rfl (ones_cons rfl (ones_cons rfl ones_nil))))))))) Tryz.sizeOf39 (by first | exact Nat.le_refl _ | simp) (splice_all rfl) ?_
      intro w114 S115 hk116
      refine l_nil ?_
      refine r_seq ?_
      refine r_region ?_
      refine l_m rfl ?_
      refine l_tail S115 2 rfl rfl rfl rfl Tryz.runUnderlying168 Tryz.sizeOf9 (by omega) ?_
      intro v117 ht118
      refine l_callP [] [] [_] rfl rfl Tryz.call138 rfl (c_seen _ ((splitW line).drop 3) (by rw [List.length_drop]; omega) _ (tail_rd ht118 (S115.at 2 rfl))) ?_ ?_
      ·skip
       rintro _ w119 ⟨s9, rfl, hs8, hl120⟩
       have S121 := S115.stepZ (by first | exact hl120 | exact hl120.bl)
       have hrd := rd_some hl9 hn0 hn1 hn2 hs8
       refine l_x rfl (x_fieldAddr rfl Tryz.runUnderlying39 rfl Tryz.sizeOf28 (by decide)) ?_
       refine l_stores (vs := [_, _, _, _, _, _]) S121 3 rfl rfl rfl rfl (ones_cons rfl (ones_cons rfl (ones_cons rfl (ones_cons rfl (ones_cons rfl (ones_cons rfl ones_nil)))))) Tryz.sizeOf28 (by first | exact Nat.le_refl _ | simp) rfl ?_
       intro w122 S123 hk124
       refine l_nil ?_
       refine r_seq ?_
       refine r_region ?_
       refine l_x rfl (x_load rfl (ld_blks (S123.blk 3 rfl) Tryz.isAgg39 Tryz.sizeOf39 rfl rfl)) ?_
       refine l_call [] [] [_] rfl rfl Tryz.call83 rfl (c_isMark ⟨n0, n1, n2, s9⟩ _) ?_
       rintro _ w125 ⟨rfl, hl127⟩
       have S126 := S123.stepZ (by first | exact hl127 | exact hl127.bl)
       refine l_callP [] [] [_] rfl rfl Tryz.call136 rfl (c_unless _ _) ?_ ?_
       ·skip
        rintro _ w128 ⟨hok31, hl129⟩
        have S130 := S126.stepZ (by first | exact hl129 | exact hl129.bl)
        refine l_nil ?_
        refine r_seq ?_
        refine r_region ?_
        refine l_x rfl (x_load rfl (ld_blks (S130.blk 3 rfl) Tryz.isAgg39 Tryz.sizeOf39 rfl rfl)) ?_
        refine l_stores (vs := [_, _, _, _, _, _, _, _, _]) S130 0 rfl rfl rfl rfl (ones_cons rfl (ones_cons rfl (ones_cons rfl (ones_cons rfl (ones_cons rfl (ones_cons rfl (ones_cons rfl (ones_cons rfl (ones_cons rfl ones_nil))))))))) Tryz.sizeOf39 (by first | exact Nat.le_refl _ | simp) (splice_all rfl) ?_
        intro w131 S132 hk133
        refine l_storeq (c' := [_]) S132 1 rfl rfl rfl rfl rfl Tryz.sizeOf31 (by first | (simp; done) | exact Nat.le_of_ble_eq_true rfl) rfl ?_
        intro w134 S135 hk136
        refine l_nil ?_
        refine r_retU rfl ?_
        have hs9 : readW line = some ⟨n0, n1, n2, s9⟩ := by rw [hrd, if_pos hok31]
        refine leave_defer rfl Tryz.call134 (by intro h; cases h) ?_
        change Dl _ _ #[.pointer (some ⟨b8, 0, none⟩)] _ _ _
        refine (c_caught0 _ _).mono ?_
        rintro _ wl ⟨rfl, hll⟩
        have Sl := S135.stepZ (by first | exact hll | exact hll.bl)
        refine leaveU_done (rs := [.cell 2 39, .cell 3 31]) [_, _] Tryz.func66 rfl ⟨⟨_, rfl, (ld_blks (Sl.blk 0 rfl) Tryz.isAgg39 Tryz.sizeOf39 rfl rfl)⟩, ⟨_, rfl, (ld_blk (Sl.blk 1 rfl) Tryz.isAgg31 rfl)⟩, trivial⟩ ?_
        exact ⟨by rw [hs9]; rfl, Sl.le⟩
       rintro _ w137 k ⟨hko, rfl, hl138⟩
       have S139 := S126.stepZ (by first | exact hl138 | exact hl138.bl)
       have hs9 : readW line = none := by rw [hrd, if_neg (by rw [hko]; decide)]
       refine leave_defer rfl Tryz.call134 (by intro h; cases h) ?_
       change Dl _ _ #[.pointer (some ⟨b8, 0, none⟩)] _ _ _
       refine (c_caught1 _ 0 _ (S139.lend 1 rfl)).mono ?_
       rintro _ wl ⟨rfl, hl2⟩
       have Sl := S139.back 1 rfl hl2
       refine leaveU_done (rs := [.cell 2 39, .cell 3 31]) [_, _] Tryz.func66 rfl ⟨⟨_, rfl, (ld_blks (Sl.blk 0 rfl) Tryz.isAgg39 Tryz.sizeOf39 rfl rfl)⟩, ⟨_, rfl, (ld_blk (Sl.blk 1 rfl) Tryz.isAgg31 rfl)⟩, trivial⟩ ?_
       exact ⟨by rw [hs9]; rfl, Sl.le⟩
      rintro _ w140 k ⟨rfl, hs8, hl141⟩
      have S142 := S115.stepZ (by first | exact hl141 | exact hl141.bl)
      have hs9 : readW line = none := rd_none (.inr (.inr (.inr hs8)))
      refine leave_defer rfl Tryz.call134 (by intro h; cases h) ?_
      change Dl _ _ #[.pointer (some ⟨b8, 0, none⟩)] _ _ _
      refine (c_caught1 _ 0 _ (S142.lend 1 rfl)).mono ?_
      rintro _ wl ⟨rfl, hl2⟩
      have Sl := S142.back 1 rfl hl2
      refine leaveU_done (rs := [.cell 2 39, .cell 3 31]) [_, _] Tryz.func66 rfl ⟨⟨_, rfl, (ld_blks (Sl.blk 0 rfl) Tryz.isAgg39 Tryz.sizeOf39 rfl rfl)⟩, ⟨_, rfl, (ld_blk (Sl.blk 1 rfl) Tryz.isAgg31 rfl)⟩, trivial⟩ ?_
      exact ⟨by rw [hs9]; rfl, Sl.le⟩
     rintro _ w111 ⟨rfl, hnn, hl113⟩
     rw [← getD_at h2] at hnn
     exact ⟨rfl, rd_none (.inr (.inr (.inl hnn))), (S109.stepZ hl113).take 2⟩
    rintro _ w108 ⟨rfl, hnn, hl110⟩
    rw [← getD_at h1] at hnn
    exact ⟨rfl, rd_none (.inr (.inl hnn)), (S105.stepZ hl110).take 2⟩
   rintro _ w26 ⟨rfl, hnn, hl28⟩
   rw [← getD_at h0] at hnn
   exact ⟨rfl, rd_none (.inl hnn), (S16.stepZ hl28).take 2⟩
  refine SpP.of (s_alloc S16 rfl Tryz.zeroValue39 rfl ?_)
  intro b146 w143 S144 hl145
  refine ⟨.of_le hl145, ?_⟩
  refine p_next [3] (by kernel_rfl) (by kernel_rfl) ⟨⟨_, _, rfl, rfl, ?_⟩, trivial⟩
  refine sp_callP [] [] [_] rfl rfl Tryz.call137 rfl ((c_number x0 (by omega) _ (hG.bl S144.le)).mono ?_ ?_)
  ·skip
   rintro _ w147 ⟨n0, rfl, hn0, hl149⟩
   rw [← getD_at h0] at hn0
   have S148 := S144.stepZ (by first | exact hl149 | exact hl149.bl)
   refine ⟨.of_le hl149, ?_⟩
   refine p_next [7] (by kernel_rfl) (by kernel_rfl) ⟨⟨_, _, rfl, rfl, ?_⟩, trivial⟩
   refine sp_callP [] [] [_] rfl rfl Tryz.call137 rfl ((c_number x1 (by omega) _ (hG.bl S148.le)).mono ?_ ?_)
   ·skip
    rintro _ w150 ⟨n1, rfl, hn1, hl152⟩
    rw [← getD_at h1] at hn1
    have S151 := S148.stepZ (by first | exact hl152 | exact hl152.bl)
    refine ⟨.of_le hl152, ?_⟩
    refine p_next [11] (by kernel_rfl) (by kernel_rfl) ⟨⟨_, _, rfl, rfl, ?_⟩, trivial⟩
    refine sp_callP [] [] [_] rfl rfl Tryz.call137 rfl ((c_number x2 (by omega) _ (hG.bl S151.le)).mono ?_ ?_)
    ·skip
     rintro _ w153 ⟨n2, rfl, hn2, hl155⟩
     rw [← getD_at h2] at hn2
     have S154 := S151.stepZ (by first | exact hl155 | exact hl155.bl)
     refine ⟨.of_le hl155, ?_⟩
     refine p_exact 12 _ (by kernel_rfl) rfl rfl (by kernel_rfl) rfl (ex_x rfl (fun w1 h8 => x_buildS (out := [_, _, _, _, _, _, _, _, _]) (ss := [1, 1, 1, 6]) Tryz.zeroValue39 rfl Tryz.runUnderlying39 ⟨Tryz.sizeOf3, Tryz.sizeOf3, Tryz.sizeOf3, Tryz.sizeOf28, trivial⟩ (fill_cons rfl rfl rfl (Nat.le_of_ble_eq_true rfl) (fill_cons rfl rfl rfl (Nat.le_of_ble_eq_true rfl) (fill_cons rfl rfl rfl (Nat.le_of_ble_eq_true rfl) fill_nil))))) ?_
     refine p_done (by kernel_rfl) ?_
     refine l_stores (vs := [_, _, _, _, _, _, _, _, _]) S154 3 rfl rfl rfl rfl (ones_cons rfl (ones_cons rfl (ones_cons rfl (ones_cons rfl (ones_cons rfl (ones_cons rfl (ones_cons rfl (ones_cons rfl (ones_cons rfl ones_nil))))))))) Tryz.sizeOf39 (by first | exact Nat.le_refl _ | simp) (splice_all rfl) ?_
     intro w156 S157 hk158
     refine l_nil ?_
     refine r_seq ?_
     refine r_region ?_
     refine l_m rfl ?_
     refine l_tail S157 2 rfl rfl rfl rfl Tryz.runUnderlying168 Tryz.sizeOf9 (by omega) ?_
     intro v159 ht160
     refine l_callP [] [] [_] rfl rfl Tryz.call138 rfl (c_seen _ ((splitW line).drop 3) (by rw [List.length_drop]; omega) _ (tail_rd ht160 (S157.at 2 rfl))) ?_ ?_
     ·skip
      rintro _ w161 ⟨s9, rfl, hs8, hl162⟩
      have S163 := S157.stepZ (by first | exact hl162 | exact hl162.bl)
      have hrd := rd_some hl9 hn0 hn1 hn2 hs8
      refine l_x rfl (x_fieldAddr rfl Tryz.runUnderlying39 rfl Tryz.sizeOf28 (by decide)) ?_
      refine l_stores (vs := [_, _, _, _, _, _]) S163 3 rfl rfl rfl rfl (ones_cons rfl (ones_cons rfl (ones_cons rfl (ones_cons rfl (ones_cons rfl (ones_cons rfl ones_nil)))))) Tryz.sizeOf28 (by first | exact Nat.le_refl _ | simp) rfl ?_
      intro w164 S165 hk166
      refine l_nil ?_
      refine r_seq ?_
      refine r_region ?_
      refine l_x rfl (x_load rfl (ld_blks (S165.blk 3 rfl) Tryz.isAgg39 Tryz.sizeOf39 rfl rfl)) ?_
      refine l_call [] [] [_] rfl rfl Tryz.call83 rfl (c_isMark ⟨n0, n1, n2, s9⟩ _) ?_
      rintro _ w167 ⟨rfl, hl169⟩
      have S168 := S165.stepZ (by first | exact hl169 | exact hl169.bl)
      refine l_callP [] [] [_] rfl rfl Tryz.call136 rfl (c_unless _ _) ?_ ?_
      ·skip
       rintro _ w170 ⟨hok31, hl171⟩
       have S172 := S168.stepZ (by first | exact hl171 | exact hl171.bl)
       refine l_nil ?_
       refine r_seq ?_
       refine r_region ?_
       refine l_x rfl (x_load rfl (ld_blks (S172.blk 3 rfl) Tryz.isAgg39 Tryz.sizeOf39 rfl rfl)) ?_
       refine l_stores (vs := [_, _, _, _, _, _, _, _, _]) S172 0 rfl rfl rfl rfl (ones_cons rfl (ones_cons rfl (ones_cons rfl (ones_cons rfl (ones_cons rfl (ones_cons rfl (ones_cons rfl (ones_cons rfl (ones_cons rfl ones_nil))))))))) Tryz.sizeOf39 (by first | exact Nat.le_refl _ | simp) (splice_all rfl) ?_
       intro w173 S174 hk175
       refine l_storeq (c' := [_]) S174 1 rfl rfl rfl rfl rfl Tryz.sizeOf31 (by first | (simp; done) | exact Nat.le_of_ble_eq_true rfl) rfl ?_
       intro w176 S177 hk178
       refine l_nil ?_
       refine r_retU rfl ?_
       have hs9 : readW line = some ⟨n0, n1, n2, s9⟩ := by rw [hrd, if_pos hok31]
       refine leave_defer rfl Tryz.call134 (by intro h; cases h) ?_
       change Dl _ _ #[.pointer (some ⟨b8, 0, none⟩)] _ _ _
       refine (c_caught0 _ _).mono ?_
       rintro _ wl ⟨rfl, hll⟩
       have Sl := S177.stepZ (by first | exact hll | exact hll.bl)
       refine leaveU_done (rs := [.cell 2 39, .cell 3 31]) [_, _] Tryz.func66 rfl ⟨⟨_, rfl, (ld_blks (Sl.blk 0 rfl) Tryz.isAgg39 Tryz.sizeOf39 rfl rfl)⟩, ⟨_, rfl, (ld_blk (Sl.blk 1 rfl) Tryz.isAgg31 rfl)⟩, trivial⟩ ?_
       exact ⟨by rw [hs9]; rfl, Sl.le⟩
      rintro _ w179 k ⟨hko, rfl, hl180⟩
      have S181 := S168.stepZ (by first | exact hl180 | exact hl180.bl)
      have hs9 : readW line = none := by rw [hrd, if_neg (by rw [hko]; decide)]
      refine leave_defer rfl Tryz.call134 (by intro h; cases h) ?_
      change Dl _ _ #[.pointer (some ⟨b8, 0, none⟩)] _ _ _
      refine (c_caught1 _ 0 _ (S181.lend 1 rfl)).mono ?_
      rintro _ wl ⟨rfl, hl2⟩
      have Sl := S181.back 1 rfl hl2
      refine leaveU_done (rs := [.cell 2 39, .cell 3 31]) [_, _] Tryz.func66 rfl ⟨⟨_, rfl, (ld_blks (Sl.blk 0 rfl) Tryz.isAgg39 Tryz.sizeOf39 rfl rfl)⟩, ⟨_, rfl, (ld_blk (Sl.blk 1 rfl) Tryz.isAgg31 rfl)⟩, trivial⟩ ?_
      exact ⟨by rw [hs9]; rfl, Sl.le⟩
     rintro _ w182 k ⟨rfl, hs8, hl183⟩
     have S184 := S157.stepZ (by first | exact hl183 | exact hl183.bl)
     have hs9 : readW line = none := rd_none (.inr (.inr (.inr hs8)))
     refine leave_defer rfl Tryz.call134 (by intro h; cases h) ?_
     change Dl _ _ #[.pointer (some ⟨b8, 0, none⟩)] _ _ _
     refine (c_caught1 _ 0 _ (S184.lend 1 rfl)).mono ?_
     rintro _ wl ⟨rfl, hl2⟩
     have Sl := S184.back 1 rfl hl2
     refine leaveU_done (rs := [.cell 2 39, .cell 3 31]) [_, _] Tryz.func66 rfl ⟨⟨_, rfl, (ld_blks (Sl.blk 0 rfl) Tryz.isAgg39 Tryz.sizeOf39 rfl rfl)⟩, ⟨_, rfl, (ld_blk (Sl.blk 1 rfl) Tryz.isAgg31 rfl)⟩, trivial⟩ ?_
     exact ⟨by rw [hs9]; rfl, Sl.le⟩
    rintro _ w153 ⟨rfl, hnn, hl155⟩
    rw [← getD_at h2] at hnn
    exact ⟨rfl, rd_none (.inr (.inr (.inl hnn))), (S151.stepZ hl155).take 2⟩
   rintro _ w150 ⟨rfl, hnn, hl152⟩
   rw [← getD_at h1] at hnn
   exact ⟨rfl, rd_none (.inr (.inl hnn)), (S148.stepZ hl152).take 2⟩
  rintro _ w147 ⟨rfl, hnn, hl149⟩
  rw [← getD_at h0] at hnn
  exact ⟨rfl, rd_none (.inl hnn), (S144.stepZ hl149).take 2⟩
 rintro _ w185 k ⟨hko, rfl, hl186⟩
 have S187 := S10.stepZ (by first | exact hl186 | exact hl186.bl)
 have hs9 : readW line = none := rd_len (by have := of_decide_eq_false hko; omega)
 refine leave_defer rfl Tryz.call134 (by intro h; cases h) ?_
 change Dl _ _ #[.pointer (some ⟨b8, 0, none⟩)] _ _ _
 refine (c_caught1 _ 0 _ (S187.lend 1 rfl)).mono ?_
 rintro _ wl ⟨rfl, hl2⟩
 have Sl := S187.back 1 rfl hl2
 refine leaveU_done (rs := [.cell 2 39, .cell 3 31]) [_, _] Tryz.func66 rfl ⟨⟨_, rfl, (ld_blks (Sl.blk 0 rfl) Tryz.isAgg39 Tryz.sizeOf39 rfl rfl)⟩, ⟨_, rfl, (ld_blk (Sl.blk 1 rfl) Tryz.isAgg31 rfl)⟩, trivial⟩ ?_
 exact ⟨by rw [hs9]; rfl, Sl.le⟩

end Go.Proofs

namespace Go.Proofs
open Go Go.Vk Go.Vk.Flow

open Go.Vk.Mark
open Go.Vk.Deed (i64 rng rng_iff owners sumI sumI_cons sumI_snoc)

theorem c_rwithin (a l h : Int) (w : World) :
  Cl Tryz.prog 171 #[Value.int .i64 a, Value.int .i64 l, Value.int .i64 h] w fun v w' => v = .bool (rng a l h) ∧ Le w w' := by
 refine fn_of_run (args := [_, _, _]) 15 Tryz.func171 rfl rfl rfl fun cs => ?_
 have S := Own.start (X := nob) w
 refine r_seq ?_
 refine r_region ?_
 refine l_a rfl ?_
 refine l_nil ?_
 refine r_seq ?_
 refine r_region ?_
 refine l_m rfl ?_
 refine l_m rfl ?_
 refine l_x rfl (x_geq rfl rfl) ?_
 refine l_m rfl ?_
 refine l_splitd (d := 10) rfl (fun hg10 => ?_) (fun hg10 => ?_)
 ·skip
  refine l_m rfl ?_
  refine l_m rfl ?_
  refine l_x rfl (x_leq rfl rfl) ?_
  refine l_x rfl (x_pick_t rfl rfl) ?_
  refine l_a rfl ?_
  refine l_nil ?_
  refine r_ret (rs := [.tmp 6]) [_] Tryz.func171 rfl ⟨rfl, trivial⟩ ?_
  exact ⟨congrArg Value.bool (by unfold rng; first | (apply decE; omega) | (apply decF; omega)), S.le⟩
 refine l_pass rfl ?_
 refine l_pass rfl ?_
 refine l_pass rfl ?_
 refine l_x rfl (x_pick_f rfl rfl) ?_
 refine l_a rfl ?_
 refine l_nil ?_
 refine r_ret (rs := [.tmp 6]) [_] Tryz.func171 rfl ⟨rfl, trivial⟩ ?_
 exact ⟨congrArg Value.bool (by unfold rng; first | (apply decE; omega) | (apply decF; omega)), S.le⟩

theorem c_rsigns (s : Sg) (w : World) :
  Cl Tryz.prog 123 #[Value.agg (encSg s).toArray] w fun v w' => v = .bool (clearB s) ∧ Le w w' := by
 refine fn_of_run (args := [_]) 12 Tryz.func123 rfl rfl rfl fun cs => ?_
 have S := Own.start (X := nob) w
 refine r_seq ?_
 refine r_region ?_
 refine l_box S rfl rfl ?_
 intro b4 w1 S2 hl3
 refine l_a rfl ?_
 refine l_nil ?_
 refine r_seq ?_
 refine r_seq ?_
 refine r_region ?_
 refine l_a rfl ?_
 refine l_nil ?_
 refine r_block ?_
 refine r_loop (G := Nat) (fun i => 6 - i) (fun i => [(1, .pointer (some ⟨b4, 0, none⟩)), (3, Value.int .i64 i)]) (fun i w' => (i ≤ 6) ∧ (∀ q, q < i → s.get q ≤ 4) ∧ Own nob w w' [blk b4 (encSg s) 28]) 0 ⟨rfl, rfl, trivial⟩ ⟨Nat.zero_le _, fun q h => absurd h (Nat.not_lt_zero q), (S2.take 1)⟩ ?_
 rintro i ρ w1 ⟨hi, hy, S1⟩ IH
 refine r_seq ?_
 refine r_seq ?_
 refine r_region ?_
 refine l_m rfl ?_
 refine l_x rfl (x_lss rfl rfl) ?_
 refine l_nil ?_
 refine r_ifd rfl (fun hc5 => ?_) (fun hc5 => ?_)
 ·skip
  refine r_skip ?_
  refine r_seq ?_
  refine r_block ?_
  refine r_seq ?_
  refine r_region ?_
  refine l_m rfl ?_
  refine l_x rfl (x_indexAddr_array rfl rfl Tryz.runUnderlying28 Tryz.sizeOf5 (by omega)) ?_
  refine l_x rfl (x_load rfl (ld_blk (S1.blk 0 rfl) Tryz.isAgg5 (sgb_get (by omega)))) ?_
  refine l_x rfl (x_gtr rfl rfl) ?_
  refine l_nil ?_
  refine r_ifd rfl (fun hc11 => ?_) (fun hc11 => ?_)
  ·skip
   refine r_seq ?_
   refine r_region ?_
   refine l_a rfl ?_
   refine l_nil ?_
   refine r_ret (rs := [.tmp 2]) [_] Tryz.func123 rfl ⟨rfl, trivial⟩ ?_
   exact ⟨congrArg Value.bool (clear_bad (i := i) (by omega) (by simpa using hc11)), S1.le⟩
  refine r_skip ?_
  refine r_inBlock ?_
  refine r_region ?_
  refine l_m rfl ?_
  refine l_x rfl (x_add rfl rfl (by omega)) ?_
  refine l_a rfl ?_
  refine l_nil ?_
  exact IH (i + 1) _ _ (by omega) ⟨rfl, rfl, trivial⟩ ⟨by omega, clear_step hy (by simpa using hc11), (S1.take 1)⟩
 obtain rfl : i = 6 := by omega
 refine r_exit rfl ?_
 refine r_seq ?_
 refine r_region ?_
 refine l_a rfl ?_
 refine l_nil ?_
 refine r_ret (rs := [.tmp 2]) [_] Tryz.func123 rfl ⟨rfl, trivial⟩ ?_
 exact ⟨congrArg Value.bool (clear_iff.2 hy).symm, S1.le⟩

theorem c_risMark (a : Mk) (w : World) :
  Cl Tryz.prog 106 #[Value.agg (encMk a).toArray] w fun v w' => v = .bool (markB a) ∧ Le w w' := by
 refine fn_of_run (args := [_]) 23 Tryz.func106 rfl rfl rfl fun cs => ?_
 have S := Own.start (X := nob) w
 refine r_seq ?_
 refine r_region ?_
 refine l_box S rfl rfl ?_
 intro b4 w1 S2 hl3
 refine l_a rfl ?_
 refine l_nil ?_
 refine r_seq ?_
 refine r_region ?_
 refine l_x rfl (x_fieldAddr rfl Tryz.runUnderlying39 rfl Tryz.sizeOf3 (by decide)) ?_
 refine l_x rfl (x_load rfl (ld_blk (S2.blk 0 rfl) Tryz.isAgg3 rfl)) ?_
 refine l_call [] [] [_, _, _] rfl rfl Tryz.call171 rfl (c_rwithin _ _ _ _) ?_
 rintro _ w5 ⟨rfl, hl7⟩
 have S6 := S2.step hl7
 refine l_m rfl ?_
 refine l_split (d := 6) rfl (fun hg6 => ?_) (fun hg6 => ?_)
 ·skip
  refine l_x rfl (x_fieldAddr rfl Tryz.runUnderlying39 rfl Tryz.sizeOf3 (by decide)) ?_
  refine l_x rfl (x_load rfl (ld_blk (S6.blk 0 rfl) Tryz.isAgg3 rfl)) ?_
  refine l_call [] [] [_, _, _] rfl rfl Tryz.call171 rfl (c_rwithin _ _ _ _) ?_
  rintro _ w8 ⟨rfl, hl10⟩
  have S9 := S6.step hl10
  refine l_x rfl (x_pick_t rfl rfl) ?_
  refine l_m rfl ?_
  refine l_split (d := 11) rfl (fun hg11 => ?_) (fun hg11 => ?_)
  ·skip
   refine l_x rfl (x_fieldAddr rfl Tryz.runUnderlying39 rfl Tryz.sizeOf3 (by decide)) ?_
   refine l_x rfl (x_load rfl (ld_blk (S9.blk 0 rfl) Tryz.isAgg3 rfl)) ?_
   refine l_x rfl (x_fieldAddr rfl Tryz.runUnderlying39 rfl Tryz.sizeOf3 (by decide)) ?_
   refine l_x rfl (x_load rfl (ld_blk (S9.blk 0 rfl) Tryz.isAgg3 rfl)) ?_
   refine l_call [] [] [_, _, _] rfl rfl Tryz.call171 rfl (c_rwithin _ _ _ _) ?_
   rintro _ w11 ⟨rfl, hl13⟩
   have S12 := S9.step hl13
   refine l_x rfl (x_pick_t rfl rfl) ?_
   refine l_m rfl ?_
   refine l_split (d := 18) rfl (fun hg18 => ?_) (fun hg18 => ?_)
   ·skip
    refine l_x rfl (x_fieldAddr rfl Tryz.runUnderlying39 rfl Tryz.sizeOf28 (by decide)) ?_
    refine l_x rfl (x_load rfl (ld_blks (S12.blk 0 rfl) Tryz.isAgg28 Tryz.sizeOf28 rfl rfl)) ?_
    refine l_call [] [] [_] rfl rfl Tryz.call123 rfl (c_rsigns _ _) ?_
    rintro _ w14 ⟨rfl, hl16⟩
    have S15 := S12.step hl16
    refine l_x rfl (x_pick_t rfl rfl) ?_
    refine l_a rfl ?_
    refine l_nil ?_
    refine r_ret (rs := [.tmp 2]) [_] Tryz.func106 rfl ⟨rfl, trivial⟩ ?_
    exact ⟨congrArg Value.bool (by rw [← rmark_eq]; simp_all), S15.le⟩
   refine l_pass rfl ?_
   refine l_pass rfl ?_
   refine l_pass rfl ?_
   refine l_x rfl (x_pick_f rfl rfl) ?_
   refine l_a rfl ?_
   refine l_nil ?_
   refine r_ret (rs := [.tmp 2]) [_] Tryz.func106 rfl ⟨rfl, trivial⟩ ?_
   exact ⟨congrArg Value.bool (by rw [← rmark_eq]; simp_all), S12.le⟩
  refine l_pass rfl ?_
  refine l_pass rfl ?_
  refine l_pass rfl ?_
  refine l_pass rfl ?_
  refine l_pass rfl ?_
  refine l_x rfl (x_pick_f rfl rfl) ?_
  refine l_m rfl ?_
  refine l_pass rfl ?_
  refine l_pass rfl ?_
  refine l_pass rfl ?_
  refine l_x rfl (x_pick_f rfl rfl) ?_
  refine l_a rfl ?_
  refine l_nil ?_
  refine r_ret (rs := [.tmp 2]) [_] Tryz.func106 rfl ⟨rfl, trivial⟩ ?_
  exact ⟨congrArg Value.bool (by rw [← rmark_eq]; simp_all), S9.le⟩
 refine l_pass rfl ?_
 refine l_pass rfl ?_
 refine l_pass rfl ?_
 refine l_x rfl (x_pick_f rfl rfl) ?_
 refine l_m rfl ?_
 refine l_pass rfl ?_
 refine l_pass rfl ?_
 refine l_pass rfl ?_
 refine l_pass rfl ?_
 refine l_pass rfl ?_
 refine l_x rfl (x_pick_f rfl rfl) ?_
 refine l_m rfl ?_
 refine l_pass rfl ?_
 refine l_pass rfl ?_
 refine l_pass rfl ?_
 refine l_x rfl (x_pick_f rfl rfl) ?_
 refine l_a rfl ?_
 refine l_nil ?_
 refine r_ret (rs := [.tmp 2]) [_] Tryz.func106 rfl ⟨rfl, trivial⟩ ?_
 exact ⟨congrArg Value.bool (by rw [← rmark_eq]; simp_all), S6.le⟩

end Go.Proofs

namespace Go.Proofs
open Go Go.Vk Go.Vk.Flow

open Go.Vk.Mark
open Go.Vk.Deed (i64 rng rng_iff owners sumI sumI_cons sumI_snoc)

end Go.Proofs

namespace Go.Proofs
open Go Go.Vk Go.Vk.Flow

open Go.Vk.Mark
open Go.Vk.Deed (i64 rng rng_iff owners sumI sumI_cons sumI_snoc)

theorem c_risSight (s : Sg) (w : World) :
  Cl Tryz.prog 108 #[Value.agg (encSg s).toArray] w fun v w' => v = .bool (sightB s) ∧ Le w w' := by
 refine fn_of_run (args := [_]) 20 Tryz.func108 rfl rfl rfl fun cs => ?_
 have S := Own.start (X := nob) w
 refine r_seq ?_
 refine r_region ?_
 refine l_box S rfl rfl ?_
 intro b4 w1 S2 hl3
 refine l_a rfl ?_
 refine l_nil ?_
 refine r_seq ?_
 refine r_seq ?_
 refine r_region ?_
 refine l_a rfl ?_
 refine l_nil ?_
 refine r_block ?_
 refine r_loop (G := Nat) (fun i => 6 - i) (fun i => [(1, .pointer (some ⟨b4, 0, none⟩)), (3, Value.int .i64 i)]) (fun i w' => (i ≤ 6) ∧ (∀ q, q < i → s.get q ≤ 4 ∨ s.get q = 9) ∧ Own nob w w' [blk b4 (encSg s) 30]) 0 ⟨rfl, rfl, trivial⟩ ⟨Nat.zero_le _, fun q h => absurd h (Nat.not_lt_zero q), (S2.take 1)⟩ ?_
 rintro i ρ w1 ⟨hi, hy, S1⟩ IH
 refine r_seq ?_
 refine r_seq ?_
 refine r_region ?_
 refine l_m rfl ?_
 refine l_x rfl (x_lss rfl rfl) ?_
 refine l_nil ?_
 refine r_ifd rfl (fun hc5 => ?_) (fun hc5 => ?_)
 ·skip
  refine r_skip ?_
  refine r_seq ?_
  refine r_block ?_
  refine r_seq ?_
  refine r_region ?_
  refine l_m rfl ?_
  refine l_x rfl (x_fieldAddr rfl Tryz.runUnderlying30 rfl Tryz.sizeOf28 (by decide)) ?_
  refine l_x rfl (x_indexAddr_array rfl rfl Tryz.runUnderlying28 Tryz.sizeOf5 (by omega)) ?_
  refine l_x rfl (x_load rfl (ld_blk (S1.blk 0 rfl) Tryz.isAgg5 (sgb_get (by omega)))) ?_
  refine l_x rfl (x_gtr rfl rfl) ?_
  refine l_m rfl ?_
  refine l_splitd (d := 13) rfl (fun hg13 => ?_) (fun hg13 => ?_)
  ·skip
   rw [Int.toNat_natCast] at hg13
   refine l_m rfl ?_
   refine l_x rfl (x_fieldAddr rfl Tryz.runUnderlying30 rfl Tryz.sizeOf28 (by decide)) ?_
   refine l_x rfl (x_indexAddr_array rfl rfl Tryz.runUnderlying28 Tryz.sizeOf5 (by omega)) ?_
   refine l_x rfl (x_load rfl (ld_blk (S1.blk 0 rfl) Tryz.isAgg5 (sgb_get (by omega)))) ?_
   refine l_x rfl (x_neq rfl rfl) ?_
   refine l_x rfl (x_pick_t rfl rfl) ?_
   refine l_nil ?_
   refine r_ifd rfl (fun hc19 => ?_) (fun hc19 => ?_)
   ·skip
    refine r_seq ?_
    refine r_region ?_
    refine l_a rfl ?_
    refine l_nil ?_
    refine r_ret (rs := [.tmp 2]) [_] Tryz.func108 rfl ⟨rfl, trivial⟩ ?_
    exact ⟨congrArg Value.bool (sight_bad (i := i) (by omega) (by omega) (by rw [Int.toNat_natCast] at hc19; omega)), S1.le⟩
   refine r_skip ?_
   refine r_inBlock ?_
   refine r_region ?_
   refine l_m rfl ?_
   refine l_x rfl (x_add rfl rfl (by omega)) ?_
   refine l_a rfl ?_
   refine l_nil ?_
   exact IH (i + 1) _ _ (by omega) ⟨rfl, rfl, trivial⟩ ⟨by omega, sight_step hy (.inr (by rw [Int.toNat_natCast] at hc19; omega)), (S1.take 1)⟩
  rw [Int.toNat_natCast] at hg13
  refine l_pass rfl ?_
  refine l_pass rfl ?_
  refine l_pass rfl ?_
  refine l_pass rfl ?_
  refine l_pass rfl ?_
  refine l_x rfl (x_pick_f rfl rfl) ?_
  refine l_nil ?_
  refine r_false rfl ?_
  refine r_skip ?_
  refine r_inBlock ?_
  refine r_region ?_
  refine l_m rfl ?_
  refine l_x rfl (x_add rfl rfl (by omega)) ?_
  refine l_a rfl ?_
  refine l_nil ?_
  exact IH (i + 1) _ _ (by omega) ⟨rfl, rfl, trivial⟩ ⟨by omega, sight_step hy (.inl (by omega)), (S1.take 1)⟩
 obtain rfl : i = 6 := by omega
 refine r_exit rfl ?_
 refine r_seq ?_
 refine r_region ?_
 refine l_a rfl ?_
 refine l_nil ?_
 refine r_ret (rs := [.tmp 2]) [_] Tryz.func108 rfl ⟨rfl, trivial⟩ ?_
 exact ⟨congrArg Value.bool (sight_iff.2 hy).symm, S1.le⟩

end Go.Proofs

namespace Go.Proofs
open Go Go.Vk Go.Vk.Flow

open Go.Vk.Mark
open Go.Vk.Deed (i64 rng rng_iff owners sumI sumI_cons sumI_snoc)

end Go.Proofs

namespace Go.Proofs
open Go Go.Vk Go.Vk.Flow

open Go.Vk.Mark
open Go.Vk.Deed (i64 rng rng_iff owners sumI sumI_cons sumI_snoc)

end Go.Proofs

namespace Go.Proofs
open Go Go.Vk Go.Vk.Flow

open Go.Vk.Mark
open Go.Vk.Deed (i64 rng rng_iff owners sumI sumI_cons sumI_snoc)
open Go.Vk.Deed (cmpI)

end Go.Proofs

namespace Go.Proofs
open Go Go.Vk Go.Vk.Flow

open Go.Vk.Mark
open Go.Vk.Deed (i64 rng rng_iff owners sumI sumI_cons sumI_snoc)
open Go.Vk.Deed (cmpI)

end Go.Proofs

namespace Go.Proofs
open Go Go.Vk Go.Vk.Flow

open Go.Vk.Mark
open Go.Vk.Deed (i64 rng rng_iff owners sumI sumI_cons sumI_snoc)

end Go.Proofs

namespace Go.Proofs
open Go Go.Vk Go.Vk.Flow

open Go.Vk.Mark
open Go.Vk.Deed (i64 rng rng_iff owners sumI sumI_cons sumI_snoc)

theorem dig_u8 (u : Nat) (h : u < 10) : ([UInt8.ofNat (48 + u)].map fun c : UInt8 => (c.toNat : Int)) = [48 + (u : Int)] := by
 rw [List.map_singleton, dig_dec h]; rfl
theorem dec_small {u : Nat} (h : u < 10) : Lib.decDigits u = [UInt8.ofNat (48 + u)] := by rw [Lib.decDigits, dif_pos h]
theorem dec_big {u : Nat} (h : ¬ u < 10) : Lib.decDigits u = Lib.decDigits (u / 10) ++ Lib.decDigits (u % 10) := by
 rw [dec_small (Nat.mod_lt u (by omega)), Lib.decDigits, dif_neg h]
theorem dec_len {u : Nat} (h : u < 1000000000) : (Lib.decDigits u).length ≤ 9 := by
 have := itoa_len (n := (u : Int)) (by omega) (by omega)
 rw [itoa_nn (by omega), Int.toNat_natCast] at this
 exact this

theorem c_rdigits0 (u : Nat) (hu : u < 1000000000) (ih : ∀ v, v < u → v < 1000000000 → ∀ w, Cl Tryz.prog 132 #[Value.int .i64 ((v : Nat) : Int)] w fun x w' => x = .string (bs (Lib.decDigits v)) ∧ Le w w') (w : World) :
  Cl Tryz.prog 132 #[Value.int .i64 (u : Int)] w fun v w' => v = .string (bs (Lib.decDigits u)) ∧ Le w w' := by
 refine fn_of_run (args := [_]) 17 Tryz.func132 rfl rfl rfl fun cs => ?_
 have S := Own.start (X := nob) w
 refine r_seq ?_
 refine r_region ?_
 refine l_a rfl ?_
 refine l_nil ?_
 refine r_seq ?_
 refine r_seq ?_
 refine r_region ?_
 refine l_m rfl ?_
 refine l_x rfl (x_lss rfl rfl) ?_
 refine l_nil ?_
 refine r_ifd rfl (fun hc4 => ?_) (fun hc4 => ?_)
 ·skip
  refine r_seq ?_
  refine r_region ?_
  refine l_m rfl ?_
  refine l_x rfl (x_add rfl rfl (by omega)) ?_
  refine l_x rfl (x_convert rfl Tryz.runUnderlying3 Tryz.runUnderlying5 (u8_in (by omega))) ?_
  refine l_buildSlice EU [48 + (u : Int)] S rfl Tryz.runUnderlying180 Tryz.sizeOf5 Tryz.zeroValue5 rfl ⟨rfl, rfl, trivial⟩ (Nat.le_of_ble_eq_true rfl) ?_
  intro v4 w1 S2 hl3
  refine l_x rfl (x_convbs (l := [UInt8.ofNat (48 + u)]) (eb := EU) rfl (by rw [dig_u8 u (by omega)]; exact vec_rd (S2.at 0 rfl)) (fun _ => rfl) (by simp) Tryz.underlying180 Tryz.underlying5 Tryz.underlying9) ?_
  refine l_a rfl ?_
  refine l_nil ?_
  refine r_ret (rs := [.tmp 2]) [_] Tryz.func132 rfl ⟨rfl, trivial⟩ ?_
  exact ⟨congrArg (fun q => Value.string (bs q)) (dec_small (by omega)).symm, S2.le⟩
 refine r_skip ?_
 refine r_seq ?_
 refine r_region ?_
 refine l_m rfl ?_
 refine l_x rfl (x_quo rfl rfl (by omega)) ?_
 refine l_call [] [] [_] rfl rfl Tryz.call132 rfl (ih (u / 10) (by omega) (by omega) _) ?_
 rintro _ w5 ⟨rfl, hl7⟩
 have S6 := S.step hl7
 refine l_m rfl ?_
 refine l_x rfl (x_rem rfl rfl (by omega)) ?_
 refine l_call [] [] [_] rfl rfl Tryz.call132 rfl (ih (u % 10) (by omega) (by omega) _) ?_
 rintro _ w8 ⟨rfl, hl10⟩
 have S9 := S6.step hl10
 refine l_x rfl (x_addbs (a := (Lib.decDigits (u / 10))) (b := (Lib.decDigits (u % 10))) rfl rfl (by have := dec_len (u := u / 10) (by omega); have := dec_len (u := u % 10) (by omega); omega)) ?_
 refine l_a rfl ?_
 refine l_nil ?_
 refine r_ret (rs := [.tmp 2]) [_] Tryz.func132 rfl ⟨rfl, trivial⟩ ?_
 exact ⟨congrArg (fun q => Value.string (bs q)) (dec_big (by omega)).symm, S9.le⟩

theorem c_rdigits (u : Nat) : u < 1000000000 → ∀ w, Cl Tryz.prog 132 #[Value.int .i64 (u : Int)] w fun x w' => x = .string (bs (Lib.decDigits u)) ∧ Le w w' := by
 induction u using Nat.strongRecOn with
 | _ u ih => exact fun hu w => c_rdigits0 u hu ih w
theorem c_ritoa (n : Int) (h : 0 ≤ n) (h2 : n < 1000000000) (w : World) : Cl Tryz.prog 132 #[Value.int .i64 n] w fun x w' => x = .string (bs (Lib.itoa n)) ∧ Le w w' := by
 obtain ⟨u, rfl⟩ := Int.eq_ofNat_of_zero_le h
 rw [itoa_nn h, Int.toNat_natCast]
 exact c_rdigits u (by omega) w

theorem ear_at {p : Nat} {g : Int} (hp : p < 2) (hg : 0 ≤ g) (hg2 : g ≤ 4 ∨ g = 9) (h9 : ¬ g = 9) : earW[g.toNat]? = some (wordAt p g) := by
 unfold wordAt wordsW
 rw [if_neg h9, if_pos hp]
 have : g.toNat < earW.length := by show g.toNat < 5; omega
 rw [List.getElem?_eq_getElem this]; rfl
theorem col_at {p : Nat} {g : Int} (hp : ¬ p < 2) (hg : 0 ≤ g) (hg2 : g ≤ 4 ∨ g = 9) (h9 : ¬ g = 9) : colW[g.toNat]? = some (wordAt p g) := by
 unfold wordAt wordsW
 rw [if_neg h9, if_neg hp]
 have : g.toNat < colW.length := by show g.toNat < 5; omega
 rw [List.getElem?_eq_getElem this]; rfl

set_option maxHeartbeats 1000000 in
theorem c_rword (p : Nat) (g : Int) (hg : 0 ≤ g) (hg2 : g ≤ 4 ∨ g = 9) (w : World) :
  Cl Tryz.prog 187 #[Value.int .i64 (p : Int), Value.int .u8 g] w fun v w' => v = .string (bs (wordAt p g)) ∧ Le w w' := by
 refine fn_of_run (args := [_, _]) 17 Tryz.func187 rfl rfl rfl fun cs => ?_
 have S := Own.start (X := nob) w
 refine r_seq ?_
 refine r_region ?_
 refine l_a rfl ?_
 refine l_nil ?_
 refine r_seq ?_
 refine r_seq ?_
 refine r_region ?_
 refine l_m rfl ?_
 refine l_x rfl (x_eql rfl rfl) ?_
 refine l_nil ?_
 refine r_ifd rfl (fun hc6 => ?_) (fun hc6 => ?_)
 ·skip
  refine r_seq ?_
  refine r_region ?_
  refine l_a rfl ?_
  refine l_nil ?_
  refine r_ret (rs := [.tmp 4]) [_] Tryz.func187 rfl ⟨rfl, trivial⟩ ?_
  exact ⟨congrArg (fun q => Value.string (bs q)) (show wornW = _ by unfold wordAt; rw [if_pos hc6]), S.le⟩
 refine r_skip ?_
 refine r_seq ?_
 refine r_seq ?_
 refine r_region ?_
 refine l_m rfl ?_
 refine l_x rfl (x_lss rfl rfl) ?_
 refine l_nil ?_
 refine r_ifd rfl (fun hc8 => ?_) (fun hc8 => ?_)
 ·skip
  refine r_seq ?_
  refine r_region ?_
  refine l_buildSlice EST [[112, 108, 97, 105, 110], [99, 114, 111, 112, 112, 101, 100], [102, 111, 114, 107, 101, 100], [114, 105, 116, 116, 101, 100], [104, 111, 108, 101, 100]] S rfl Tryz.runUnderlying168 Tryz.sizeOf9 Tryz.zeroValue9 rfl ⟨rfl, rfl, rfl, rfl, rfl, rfl, rfl, rfl, rfl, rfl, trivial⟩ (Nat.le_of_ble_eq_true rfl) ?_
  intro v4 w1 S2 hl3
  refine l_m rfl ?_
  refine l_indexk EST rfl (vec_rd (S2.at 0 rfl)) rfl rfl Tryz.runUnderlying168 Tryz.sizeOf9 hg (ear_at (p := p) (by omega) hg hg2 hc6) ?_
  intro b5 o6 hat7 row8
  refine l_x rfl (x_load rfl (ld_cell Tryz.isAgg9 (row8 0 _ rfl))) ?_
  refine l_a rfl ?_
  refine l_nil ?_
  refine r_ret (rs := [.tmp 4]) [_] Tryz.func187 rfl ⟨rfl, trivial⟩ ?_
  exact ⟨rfl, S2.le⟩
 refine r_skip ?_
 refine r_seq ?_
 refine r_region ?_
 refine l_buildSlice EST [[98, 97, 114, 101], [114, 101, 100], [98, 108, 117, 101], [103, 114, 101, 101, 110], [98, 108, 97, 99, 107]] S rfl Tryz.runUnderlying168 Tryz.sizeOf9 Tryz.zeroValue9 rfl ⟨rfl, rfl, rfl, rfl, rfl, rfl, rfl, rfl, rfl, rfl, trivial⟩ (Nat.le_of_ble_eq_true rfl) ?_
 intro v12 w9 S10 hl11
 refine l_m rfl ?_
 refine l_indexk EST rfl (vec_rd (S10.at 0 rfl)) rfl rfl Tryz.runUnderlying168 Tryz.sizeOf9 hg (col_at (p := p) (by omega) hg hg2 hc6) ?_
 intro b13 o14 hat15 row16
 refine l_x rfl (x_load rfl (ld_cell Tryz.isAgg9 (row16 0 _ rfl))) ?_
 refine l_a rfl ?_
 refine l_nil ?_
 refine r_ret (rs := [.tmp 4]) [_] Tryz.func187 rfl ⟨rfl, trivial⟩ ?_
 exact ⟨rfl, S10.le⟩

def lineP (s : Sg) (i : Nat) : List UInt8 := Lib.join ((toldL s).take i) [32]
theorem line_one {s : Sg} : lineP s 1 = wordAt 0 (s.get 0) := Lib.join_one _ _
theorem line_step {s : Sg} {i : Nat} (h1 : 1 ≤ i) (hi : i < 6) : lineP s (i + 1) = lineP s i ++ [32] ++ wordAt i (s.get i) := by
 unfold lineP
 cases e : toldL s with
 | nil => have := toldL_len (t := s); rw [e] at this; cases this
 | cons x xs =>
  obtain ⟨j, rfl⟩ : ∃ j, i = j + 1 := ⟨i - 1, by omega⟩
  have hx : xs[j]? = some (wordAt (j + 1) (s.get (j + 1))) := by
   have := told_at (p := j + 1) (t := s) hi
   rw [e] at this
   exact this
  rw [List.take_succ_cons, List.take_succ_cons, Lib.join_cons, Lib.join_cons, Lib.joinTail_take_succ [32] xs j _ hx]
  simp [List.append_assoc]
theorem line_all {s : Sg} : lineP s 6 = toldW s := by
 unfold lineP toldW
 rw [List.take_of_length_le (by rw [toldL_len]; omega)]
theorem line_len {s : Sg} {i : Nat} : 1 ≤ i → i ≤ 6 → (lineP s i).length ≤ 8 * i := by
 induction i with
 | zero => intro h; omega
 | succ i ih =>
  intro _ h6
  by_cases h : i = 0
  ·subst h; rw [line_one]; have := word_len (p := 0) (g := s.get 0); omega
  rw [line_step (by omega) (by omega), List.length_append, List.length_append]
  have := ih (by omega) (by omega)
  have := word_len (p := i) (g := s.get i)
  simp only [List.length_singleton]; omega

set_option maxHeartbeats 2000000 in
theorem c_rline (s : Sg) (hk : SgOk s) (hs : sightB s = true) (w : World) :
  Cl Tryz.prog 133 #[Value.agg (encSg s).toArray] w fun v w' => v = .string (bs (toldW s)) ∧ Le w w' := by
 refine fn_of_run (args := [_]) 21 Tryz.func133 rfl rfl rfl fun cs => ?_
 have S := Own.start (X := nob) w
 refine r_seq ?_
 refine r_region ?_
 refine l_box S rfl rfl ?_
 intro b4 w1 S2 hl3
 refine l_a rfl ?_
 refine l_nil ?_
 refine r_seq ?_
 refine r_region ?_
 refine l_x rfl (x_indexAddr_array rfl rfl Tryz.runUnderlying28 Tryz.sizeOf5 (by decide)) ?_
 refine l_x rfl (x_load rfl (ld_blk (S2.blk 0 rfl) Tryz.isAgg5 (sgb_get (s := s) (by decide)))) ?_
 refine l_call [] [] [_, _] rfl rfl Tryz.call187 rfl (c_rword 0 (s.get 0) (sight_at hk hs (by decide)).1 (sight_at hk hs (by decide)).2 _) ?_
 rintro _ w5 ⟨rfl, hl7⟩
 have S6 := S2.step hl7
 refine l_a rfl ?_
 refine l_nil ?_
 refine r_seq ?_
 refine r_seq ?_
 refine r_region ?_
 refine l_a rfl ?_
 refine l_nil ?_
 refine r_block ?_
 refine r_loop (G := Nat) (fun i => 6 - i) (fun i => [(1, .pointer (some ⟨b4, 0, none⟩)), (3, .string (bs (lineP s i))), (4, Value.int .i64 i)]) (fun i w' => (i ≤ 6) ∧ (1 ≤ i) ∧ Own nob w w' [blk b4 (encSg s) 28]) 1 ⟨rfl, (congrArg (fun q => Value.string (bs q)) line_one.symm), rfl, trivial⟩ ⟨by decide, Nat.le_refl _, (S6.take 1)⟩ ?_
 rintro i ρ w1 ⟨hi, hi1, S1⟩ IH
 refine r_seq ?_
 refine r_seq ?_
 refine r_region ?_
 refine l_m rfl ?_
 refine l_x rfl (x_lss rfl rfl) ?_
 refine l_nil ?_
 refine r_ifd rfl (fun hc9 => ?_) (fun hc9 => ?_)
 ·skip
  refine r_skip ?_
  refine r_seq ?_
  refine r_block ?_
  refine r_region ?_
  refine l_m rfl ?_
  refine l_x rfl (x_addbs (a := lineP s i) (b := [32]) rfl rfl (by have := line_len (s := s) hi1 hi; simp only [List.length_singleton]; omega)) ?_
  refine l_m rfl ?_
  refine l_m rfl ?_
  refine l_x rfl (x_indexAddr_array rfl rfl Tryz.runUnderlying28 Tryz.sizeOf5 (by omega)) ?_
  refine l_x rfl (x_load rfl (ld_blk (S1.blk 0 rfl) Tryz.isAgg5 (sgb_get (s := s) (by omega)))) ?_
  refine l_call [] [] [_, _] rfl rfl Tryz.call187 rfl (c_rword i (s.get i) (sight_at hk hs (by omega)).1 (sight_at hk hs (by omega)).2 _) ?_
  rintro _ w8 ⟨rfl, hl10⟩
  have S9 := S1.step hl10
  refine l_x rfl (x_addbs (a := lineP s i ++ [32]) (b := wordAt i (s.get i)) rfl rfl (by have := line_len (s := s) hi1 hi; have := word_len (p := i) (g := s.get i); simp only [List.length_append, List.length_singleton]; omega)) ?_
  refine l_a rfl ?_
  refine l_nil ?_
  refine r_inBlock ?_
  refine r_region ?_
  refine l_m rfl ?_
  refine l_x rfl (x_add rfl rfl (by omega)) ?_
  refine l_a rfl ?_
  refine l_nil ?_
  exact IH (i + 1) _ _ (by omega) ⟨rfl, (congrArg (fun q => Value.string (bs q)) (line_step hi1 (by omega)).symm), rfl, trivial⟩ ⟨by omega, by omega, (S9.take 1)⟩
 obtain rfl : i = 6 := by omega
 refine r_exit rfl ?_
 refine r_seq ?_
 refine r_region ?_
 refine l_m rfl ?_
 refine l_a rfl ?_
 refine l_nil ?_
 refine r_ret (rs := [.tmp 2]) [_] Tryz.func133 rfl ⟨rfl, trivial⟩ ?_
 exact ⟨congrArg (fun q => Value.string (bs q)) line_all, S1.le⟩

end Go.Proofs

namespace Go.Proofs
open Go Go.Vk Go.Vk.Flow

open Go.Vk.Mark
open Go.Vk.Deed (i64 rng rng_iff owners sumI sumI_cons sumI_snoc)

set_option maxHeartbeats 2000000 in
theorem c_rWrite (k : Mk) (hk : MkOk k) (w : World) :
  Cl Tryz.prog 65 #[Value.agg (encMk k).toArray] w fun v w' => (markB k = false ∧ v = .tuple #[.string (bs []), .int .i64 1] ∧ Le w w') ∨ (markB k = true ∧ v = .tuple #[.string (bs (writeW k)), .int .i64 0] ∧ Le w w') := by
 refine fn_of_run (args := [_]) 25 Tryz.func65 rfl rfl rfl fun cs => ?_
 have S := Own.start (X := nob) w
 refine r_seq ?_
 refine r_region ?_
 refine l_box S rfl rfl ?_
 intro b4 w1 S2 hl3
 refine l_a rfl ?_
 refine l_a rfl ?_
 refine l_nil ?_
 refine r_seq ?_
 refine r_seq ?_
 refine r_region ?_
 refine l_x rfl (x_load rfl (ld_blks (S2.blk 0 rfl) Tryz.isAgg39 Tryz.sizeOf39 rfl rfl)) ?_
 refine l_call [] [] [_] rfl rfl Tryz.call106 rfl (c_risMark k _) ?_
 rintro _ w5 ⟨rfl, hl7⟩
 have S6 := S2.step hl7
 refine l_x rfl (x_not rfl) ?_
 refine l_nil ?_
 refine r_if rfl (fun hc6 => ?_) (fun hc6 => ?_)
 ·skip
  refine r_seq ?_
  refine r_region ?_
  refine l_a rfl ?_
  refine l_a rfl ?_
  refine l_nil ?_
  refine r_ret (rs := [.tmp 2, .tmp 3]) [_, _] Tryz.func65 rfl ⟨rfl, rfl, trivial⟩ ?_
  exact .inl ⟨by simpa using hc6, rfl, S6.le⟩
 have hmb : markB k = true := by simpa using hc6
 obtain ⟨g1, g2, g3⟩ := mark_parts hmb
 have n1 := itoa_len (n := k.owner) (by omega) (by omega)
 have n2 := itoa_len (n := k.frm) (by omega) (by omega)
 have n3 := itoa_len (n := k.til) (by omega) (by omega)
 have n4 := told_small (s := k.s)
 refine r_skip ?_
 refine r_seq ?_
 refine r_drawR 20 Tryz.mixed (by kernel_rfl) ?_
 refine w_x rfl (fun w1 h1 => x_fieldAddr rfl Tryz.runUnderlying39 rfl Tryz.sizeOf3 (by decide)) ?_
 refine w_x rfl (fun w1 h1 => x_load rfl (ld_blk ((S6.step h1).blk 0 rfl) Tryz.isAgg3 rfl)) ?_
 refine wd_call [] [] [_] rfl rfl Tryz.call132 rfl (fun w1 h1 => c_ritoa k.owner (by omega) (by omega) _) ?_
 refine w_x rfl (fun w1 h1 => x_addbs (a := Lib.itoa k.owner) (b := [32]) rfl rfl (by simp only [List.length_append, List.length_singleton]; omega)) ?_
 refine w_x rfl (fun w1 h1 => x_fieldAddr rfl Tryz.runUnderlying39 rfl Tryz.sizeOf3 (by decide)) ?_
 refine w_x rfl (fun w1 h1 => x_load rfl (ld_blk ((S6.step h1).blk 0 rfl) Tryz.isAgg3 rfl)) ?_
 refine wd_call [] [] [_] rfl rfl Tryz.call132 rfl (fun w1 h1 => c_ritoa k.frm (by omega) (by omega) _) ?_
 refine w_x rfl (fun w1 h1 => x_addbs (a := (Lib.itoa k.owner ++ [32])) (b := Lib.itoa k.frm) rfl rfl (by simp only [List.length_append, List.length_singleton]; omega)) ?_
 refine w_x rfl (fun w1 h1 => x_addbs (a := ((Lib.itoa k.owner ++ [32]) ++ Lib.itoa k.frm)) (b := [32]) rfl rfl (by simp only [List.length_append, List.length_singleton]; omega)) ?_
 refine w_x rfl (fun w1 h1 => x_fieldAddr rfl Tryz.runUnderlying39 rfl Tryz.sizeOf3 (by decide)) ?_
 refine w_x rfl (fun w1 h1 => x_load rfl (ld_blk ((S6.step h1).blk 0 rfl) Tryz.isAgg3 rfl)) ?_
 refine wd_call [] [] [_] rfl rfl Tryz.call132 rfl (fun w1 h1 => c_ritoa k.til (by omega) (by omega) _) ?_
 refine w_x rfl (fun w1 h1 => x_addbs (a := (((Lib.itoa k.owner ++ [32]) ++ Lib.itoa k.frm) ++ [32])) (b := Lib.itoa k.til) rfl rfl (by simp only [List.length_append, List.length_singleton]; omega)) ?_
 refine w_x rfl (fun w1 h1 => x_addbs (a := ((((Lib.itoa k.owner ++ [32]) ++ Lib.itoa k.frm) ++ [32]) ++ Lib.itoa k.til)) (b := [32]) rfl rfl (by simp only [List.length_append, List.length_singleton]; omega)) ?_
 refine w_x rfl (fun w1 h1 => x_fieldAddr rfl Tryz.runUnderlying39 rfl Tryz.sizeOf28 (by decide)) ?_
 refine w_x rfl (fun w1 h1 => x_load rfl (ld_blks ((S6.step h1).blk 0 rfl) Tryz.isAgg28 Tryz.sizeOf28 rfl rfl)) ?_
 refine wd_call [] [] [_] rfl rfl Tryz.call133 rfl (fun w1 h1 => c_rline k.s hk.s (clear_sight g3) _) ?_
 refine w_x rfl (fun w1 h1 => x_addbs (a := (((((Lib.itoa k.owner ++ [32]) ++ Lib.itoa k.frm) ++ [32]) ++ Lib.itoa k.til) ++ [32])) (b := (toldW k.s)) rfl rfl (by simp only [List.length_append, List.length_singleton]; omega)) ?_
 refine w_x rfl (fun w1 h1 => x_as rfl) ?_
 refine w_x rfl (fun w1 h1 => x_as rfl) ?_
 refine w_nil ?_
 intro w8 hl9
 have S10 := S6.step hl9
 refine l_nil ?_
 refine r_ret (rs := [.tmp 2, .tmp 3]) [_, _] Tryz.func65 rfl ⟨rfl, rfl, trivial⟩ ?_
 exact .inr ⟨hmb, congrArg (fun q => Value.tuple #[.string (bs q), .int .i64 0]) write_cat, S10.le⟩

set_option maxHeartbeats 1000000 in
theorem c_rWriteSight (s : Sg) (hk : SgOk s) (w : World) :
  Cl Tryz.prog 69 #[Value.agg (encSg s).toArray] w fun v w' => (sightB s = false ∧ v = .tuple #[.string (bs []), .int .i64 1] ∧ Le w w') ∨ (sightB s = true ∧ v = .tuple #[.string (bs (toldW s)), .int .i64 0] ∧ Le w w') := by
 refine fn_of_run (args := [_]) 10 Tryz.func69 rfl rfl rfl fun cs => ?_
 have S := Own.start (X := nob) w
 refine r_seq ?_
 refine r_region ?_
 refine l_box S rfl rfl ?_
 intro b4 w1 S2 hl3
 refine l_a rfl ?_
 refine l_a rfl ?_
 refine l_nil ?_
 refine r_seq ?_
 refine r_seq ?_
 refine r_region ?_
 refine l_x rfl (x_load rfl (ld_blks (S2.blk 0 rfl) Tryz.isAgg30 Tryz.sizeOf30 rfl rfl)) ?_
 refine l_call [] [] [_] rfl rfl Tryz.call108 rfl (c_risSight s _) ?_
 rintro _ w5 ⟨rfl, hl7⟩
 have S6 := S2.step hl7
 refine l_x rfl (x_not rfl) ?_
 refine l_nil ?_
 refine r_if rfl (fun hc6 => ?_) (fun hc6 => ?_)
 ·skip
  refine r_seq ?_
  refine r_region ?_
  refine l_a rfl ?_
  refine l_a rfl ?_
  refine l_nil ?_
  refine r_ret (rs := [.tmp 2, .tmp 3]) [_, _] Tryz.func69 rfl ⟨rfl, rfl, trivial⟩ ?_
  exact .inl ⟨by simpa using hc6, rfl, S6.le⟩
 refine r_skip ?_
 refine r_seq ?_
 refine r_region ?_
 refine l_x rfl (x_fieldAddr rfl Tryz.runUnderlying30 rfl Tryz.sizeOf28 (by decide)) ?_
 refine l_x rfl (x_load rfl (ld_blks (S6.blk 0 rfl) Tryz.isAgg28 Tryz.sizeOf28 rfl rfl)) ?_
 refine l_call [] [] [_] rfl rfl Tryz.call133 rfl (c_rline s hk (by simpa using hc6) _) ?_
 rintro _ w8 ⟨rfl, hl10⟩
 have S9 := S6.step hl10
 refine l_a rfl ?_
 refine l_a rfl ?_
 refine l_nil ?_
 refine r_ret (rs := [.tmp 2, .tmp 3]) [_, _] Tryz.func69 rfl ⟨rfl, rfl, trivial⟩ ?_
 exact .inr ⟨by simpa using hc6, rfl, S9.le⟩

end Go.Proofs

namespace Go.Proofs
open Go Go.Vk Go.Vk.Flow

open Go.Vk.Mark
open Go.Vk.Deed (i64 rng rng_iff owners sumI sumI_cons sumI_snoc)

theorem u8_eq {c d : UInt8} : ((c.toNat : Int) = (d.toNat : Int)) ↔ c = d := ⟨fun h => UInt8.toNat_inj.1 (by omega), fun h => by rw [h]⟩
theorem val_step {s : List UInt8} {i : Nat} {c : UInt8} (hc : s[i]? = some c) : valN (s.take (i + 1)) = 10 * valN (s.take i) + (c.toNat : Int) - 48 := by
 unfold valN
 rw [take_sn hc, List.foldl_append]; rfl
theorem val_bd {s : List UInt8} (h : s.all digB = true) : 0 ≤ valN s ∧ valN s < 10 ^ s.length := by
 have key : ∀ (l : List UInt8) (n : Int) (k : Nat), l.all digB = true → 0 ≤ n → n < 10 ^ k → 0 ≤ l.foldl (fun n c => 10 * n + (c.toNat : Int) - 48) n ∧ l.foldl (fun n c => 10 * n + (c.toNat : Int) - 48) n < 10 ^ (k + l.length) := by
  intro l
  induction l with
  | nil => intro n k _ h1 h2; exact ⟨h1, h2⟩
  | cons c r ih =>
   intro n k hd h1 h2
   rw [List.all_cons, Bool.and_eq_true] at hd
   have hc := hd.1
   unfold digB at hc
   rw [decide_eq_true_eq] at hc
   have e : ((10 : Int) ^ (k + 1)) = 10 ^ k * 10 := Int.pow_succ ..
   have := ih (10 * n + (c.toNat : Int) - 48) (k + 1) hd.2 (by omega) (by rw [e]; omega)
   rw [List.foldl_cons, List.length_cons, show k + (r.length + 1) = k + 1 + r.length by omega]
   exact this
 have := key s 0 0 h (by decide) (by decide)
 rw [Nat.zero_add] at this
 exact this
theorem val_lt {s : List UInt8} {i : Nat} (h : s.all digB = true) (hi : s.length ≤ 9) : 0 ≤ valN (s.take i) ∧ valN (s.take i) ≤ 1000000000 := by
 have h2 : (s.take i).all digB = true := List.all_eq_true.2 fun x hx => List.all_eq_true.1 h x (List.mem_of_mem_take hx)
 obtain ⟨h3, h4⟩ := val_bd h2
 have h5 : (s.take i).length ≤ 9 := by rw [List.length_take]; omega
 have h6 : (10 : Int) ^ (s.take i).length ≤ 10 ^ 9 := by
  have := Nat.pow_le_pow_right (n := 10) (by decide) h5
  exact_mod_cast this
 have : (10 : Int) ^ 9 = 1000000000 := by decide
 omega

set_option maxHeartbeats 2000000 in
theorem c_rwords (l : List UInt8) (hl : l.length ≤ 900) (w : World) :
  Cl Tryz.prog 139 #[.string (bs l)] w fun v w' => New w w' (vec EST v (splitW l)) ∧ Le w w' := by
 refine fn_of_run (args := [_]) 31 Tryz.func139 rfl rfl rfl fun cs => ?_
 have S := Own.start (X := nob) w
 refine r_seq ?_
 refine r_region ?_
 refine l_a rfl ?_
 refine l_nil ?_
 refine r_seq ?_
 refine r_region ?_
 refine l_a rfl ?_
 have S1 := S.nilvec (E := EST)
 refine l_nil ?_
 refine r_seq ?_
 refine r_region ?_
 refine l_a rfl ?_
 refine l_nil ?_
 refine r_seq ?_
 refine r_seq ?_
 refine r_region ?_
 refine l_a rfl ?_
 refine l_nil ?_
 refine r_block ?_
 refine r_loop (G := Nat × Nat × List (List UInt8) × Value) (fun ⟨i, fr, out, vo⟩ => l.length - i) (fun ⟨i, fr, out, vo⟩ => [(0, .string (bs l)), (3, vo), (4, Value.int .i64 fr), (5, Value.int .i64 i)]) (fun ⟨i, fr, out, vo⟩ w' => (WordI l i fr out) ∧ Own nob w w' [vec EST vo out]) (0, 0, [], .slice none 0 0) ⟨rfl, rfl, rfl, rfl, trivial⟩ ⟨WordI.start, (S1.take 1)⟩ ?_
 rintro ⟨i, fr, out, vo⟩ ρ w1 ⟨hI, S1⟩ IH
 refine r_seq ?_
 refine r_seq ?_
 refine r_region ?_
 refine l_m rfl ?_
 refine l_m rfl ?_
 refine l_x rfl (x_lenbs rfl Tryz.runUnderlying9) ?_
 refine l_x rfl (x_lss rfl rfl) ?_
 refine l_nil ?_
 refine r_ifd rfl (fun hc9 => ?_) (fun hc9 => ?_)
 ·skip
  obtain ⟨c, hc⟩ : ∃ c, l[i]? = some c := ⟨_, List.getElem?_eq_getElem (by omega)⟩
  refine r_skip ?_
  refine r_seq ?_
  refine r_block ?_
  refine r_seq ?_
  refine r_region ?_
  refine l_m rfl ?_
  refine l_m rfl ?_
  refine l_x rfl (x_idxbs (i := i) (c := c) rfl rfl Tryz.runUnderlying9 hc) ?_
  refine l_x rfl (x_eql rfl rfl) ?_
  refine l_nil ?_
  refine r_ifd rfl (fun hc15 => ?_) (fun hc15 => ?_)
  ·skip
   have hc32 : c = 32 := u8_eq.1 (by simpa using hc15)
   subst hc32
   refine r_seq ?_
   refine r_region ?_
   refine l_m rfl ?_
   refine l_m rfl ?_
   refine l_m rfl ?_
   refine l_m rfl ?_
   refine l_x rfl (x_cutbs (p := fr) (q := i) rfl Tryz.runUnderlying9 rfl rfl ⟨hI.le, hI.len⟩) ?_
   refine l_buildSlice EST [(l.take i).drop fr] S1 rfl Tryz.runUnderlying168 Tryz.sizeOf9 Tryz.zeroValue9 rfl ⟨rfl, rfl, trivial⟩ (Nat.le_of_ble_eq_true rfl) ?_
   intro v5 w2 S3 hl4
   refine l_append EST S3 0 rfl rfl rfl rfl (vec_rd (S3.at 1 rfl)) Tryz.underlying168 info9 rfl rfl rfl (by have := hI.ol; have := hI.le; have := hI.len; unfold maxLen; rw [List.length_singleton]; omega) (by have := hI.ol; have := hI.le; have := hI.len; rw [List.length_singleton]; show _ * 16 ≤ _; omega) ?_
   intro v9 w6 S7 hk8 hv10
   refine l_a rfl ?_
   refine l_nil ?_
   refine r_region ?_
   refine l_m rfl ?_
   refine l_x rfl (x_add rfl rfl (by omega)) ?_
   refine l_a rfl ?_
   refine l_nil ?_
   refine r_inBlock ?_
   refine r_region ?_
   refine l_m rfl ?_
   refine l_x rfl (x_add rfl rfl (by omega)) ?_
   refine l_a rfl ?_
   refine l_nil ?_
   exact IH (i + 1, i + 1, out ++ [(l.take i).drop fr], v9) _ _ (by dsimp only; omega) ⟨rfl, rfl, rfl, rfl, trivial⟩ ⟨hI.cut hc, (by exact S7.take 1)⟩
  have hc32 : c ≠ 32 := fun e => hc15 (by rw [e]; rfl)
  refine r_skip ?_
  refine r_inBlock ?_
  refine r_region ?_
  refine l_m rfl ?_
  refine l_x rfl (x_add rfl rfl (by omega)) ?_
  refine l_a rfl ?_
  refine l_nil ?_
  exact IH (i + 1, fr, out, vo) _ _ (by dsimp only; omega) ⟨rfl, rfl, rfl, rfl, trivial⟩ ⟨hI.stay hc hc32, (by exact S1.take 1)⟩
 obtain rfl : i = l.length := by have := hI.len; omega
 refine r_exit rfl ?_
 refine r_seq ?_
 refine r_region ?_
 refine l_m rfl ?_
 refine l_m rfl ?_
 refine l_m rfl ?_
 refine l_x rfl (x_tailbs (p := fr) rfl Tryz.runUnderlying9 rfl hI.le) ?_
 refine l_buildSlice EST [l.drop fr] S1 rfl Tryz.runUnderlying168 Tryz.sizeOf9 Tryz.zeroValue9 rfl ⟨rfl, rfl, trivial⟩ (Nat.le_of_ble_eq_true rfl) ?_
 intro v14 w11 S12 hl13
 refine l_append EST S12 0 rfl rfl rfl rfl (vec_rd (S12.at 1 rfl)) Tryz.underlying168 info9 rfl rfl rfl (by have := hI.ol; have := hI.le; have := hI.len; unfold maxLen; rw [List.length_singleton]; omega) (by have := hI.ol; have := hI.le; have := hI.len; rw [List.length_singleton]; show _ * 16 ≤ _; omega) ?_
 intro v18 w15 S16 hk17 hv19
 refine l_a rfl ?_
 refine l_nil ?_
 refine r_ret (rs := [.tmp 2]) [_] Tryz.func139 rfl ⟨rfl, trivial⟩ ?_
 exact ⟨by have h := S16.new 0 rfl; rw [hI.done] at h; exact h, S16.le⟩

theorem val_take {s : List UInt8} {i : Nat} (h : (s.take i).all digB = true) (hi : s.length ≤ 9) : 0 ≤ valN (s.take i) ∧ valN (s.take i) ≤ 1000000000 := by
 have := val_lt (s := s.take i) (i := i) h (by rw [List.length_take]; omega)
 rw [List.take_take, Nat.min_self] at this
 exact this
theorem dig_step {s : List UInt8} {i : Nat} {c : UInt8} (h : (s.take i).all digB = true) (hc : s[i]? = some c) (hd : digB c = true) : (s.take (i + 1)).all digB = true := by
 rw [take_sn hc, List.all_append, h]; simp [hd]
theorem val_bad {s : List UInt8} {i : Nat} {c : UInt8} (hl : 1 ≤ s.length ∧ s.length ≤ 9) (hc : s[i]? = some c) (hd : digB c = false) : valS s = -1 := by
 unfold valS
 rw [if_neg (by omega), if_neg fun h => ?_]
 have := List.all_eq_true.1 h c (List.mem_of_getElem? hc)
 rw [hd] at this; cases this
theorem val_good {s : List UInt8} (hl : 1 ≤ s.length ∧ s.length ≤ 9) (hd : s.all digB = true) : valS s = valN s := by
 unfold valS
 rw [if_neg (by omega), if_pos hd]

set_option maxHeartbeats 2000000 in
theorem c_rvalue (s : List UInt8) (hs : s.length ≤ 900) (w : World) :
  Cl Tryz.prog 140 #[.string (bs s)] w fun v w' => v = .int .i64 (valS s) ∧ Le w w' := by
 refine fn_of_run (args := [_]) 38 Tryz.func140 rfl rfl rfl fun cs => ?_
 have S := Own.start (X := nob) w
 refine r_seq ?_
 refine r_region ?_
 refine l_a rfl ?_
 refine l_nil ?_
 refine r_seq ?_
 refine r_seq ?_
 refine r_region ?_
 refine l_m rfl ?_
 refine l_x rfl (x_lenbs rfl Tryz.runUnderlying9) ?_
 refine l_x rfl (x_lss rfl rfl) ?_
 refine l_m rfl ?_
 refine l_splitd (d := 8) rfl (fun hg8 => ?_) (fun hg8 => ?_)
 ·skip
  refine l_pass rfl ?_
  refine l_pass rfl ?_
  refine l_pass rfl ?_
  refine l_x rfl (x_pick_t rfl rfl) ?_
  refine l_nil ?_
  refine r_true rfl ?_
  refine r_seq ?_
  refine r_region ?_
  refine l_a rfl ?_
  refine l_nil ?_
  refine r_ret (rs := [.tmp 2]) [_] Tryz.func140 rfl ⟨rfl, trivial⟩ ?_
  exact ⟨congrArg (Value.int .i64) (by unfold valS; rw [if_pos (by omega)]), S.le⟩
 refine l_m rfl ?_
 refine l_x rfl (x_lenbs rfl Tryz.runUnderlying9) ?_
 refine l_x rfl (x_gtr rfl rfl) ?_
 refine l_x rfl (x_pick_f rfl rfl) ?_
 refine l_nil ?_
 refine r_ifd rfl (fun hc12 => ?_) (fun hc12 => ?_)
 ·skip
  refine r_seq ?_
  refine r_region ?_
  refine l_a rfl ?_
  refine l_nil ?_
  refine r_ret (rs := [.tmp 2]) [_] Tryz.func140 rfl ⟨rfl, trivial⟩ ?_
  exact ⟨congrArg (Value.int .i64) (by unfold valS; rw [if_pos (by omega)]), S.le⟩
 refine r_skip ?_
 refine r_seq ?_
 refine r_region ?_
 refine l_a rfl ?_
 refine l_nil ?_
 refine r_seq ?_
 refine r_seq ?_
 refine r_region ?_
 refine l_a rfl ?_
 refine l_nil ?_
 refine r_block ?_
 refine r_loop (G := Nat) (fun i => s.length - i) (fun i => [(0, .string (bs s)), (3, Value.int .i64 (valN (s.take i))), (4, Value.int .i64 i)]) (fun i w' => (i ≤ s.length) ∧ ((s.take i).all digB = true) ∧ Own nob w w' []) 0 ⟨rfl, rfl, rfl, trivial⟩ ⟨Nat.zero_le _, rfl, (S.take 0)⟩ ?_
 rintro i ρ w1 ⟨hi, hd, S1⟩ IH
 refine r_seq ?_
 refine r_seq ?_
 refine r_region ?_
 refine l_m rfl ?_
 refine l_m rfl ?_
 refine l_x rfl (x_lenbs rfl Tryz.runUnderlying9) ?_
 refine l_x rfl (x_lss rfl rfl) ?_
 refine l_nil ?_
 refine r_ifd rfl (fun hc16 => ?_) (fun hc16 => ?_)
 ·skip
  obtain ⟨c, hc⟩ : ∃ c, s[i]? = some c := ⟨_, List.getElem?_eq_getElem (by omega)⟩
  have hcb := UInt8.toNat_lt c
  have hvb := val_take (s := s) (i := i) hd (by omega)
  refine r_skip ?_
  refine r_seq ?_
  refine r_block ?_
  refine r_seq ?_
  refine r_seq ?_
  refine r_region ?_
  refine l_m rfl ?_
  refine l_m rfl ?_
  refine l_x rfl (x_idxbs (i := i) (c := c) rfl rfl Tryz.runUnderlying9 hc) ?_
  refine l_x rfl (x_lss rfl rfl) ?_
  refine l_m rfl ?_
  refine l_splitd (d := 23) rfl (fun hg23 => ?_) (fun hg23 => ?_)
  ·skip
   refine l_pass rfl ?_
   refine l_pass rfl ?_
   refine l_pass rfl ?_
   refine l_pass rfl ?_
   refine l_x rfl (x_pick_t rfl rfl) ?_
   refine l_nil ?_
   refine r_true rfl ?_
   refine r_seq ?_
   refine r_region ?_
   refine l_a rfl ?_
   refine l_nil ?_
   refine r_ret (rs := [.tmp 2]) [_] Tryz.func140 rfl ⟨rfl, trivial⟩ ?_
   exact ⟨congrArg (Value.int .i64) (by exact (val_bad (by omega) hc (by unfold digB; simp_all <;> omega)).symm), S1.le⟩
  refine l_m rfl ?_
  refine l_m rfl ?_
  refine l_x rfl (x_idxbs (i := i) (c := c) rfl rfl Tryz.runUnderlying9 hc) ?_
  refine l_x rfl (x_gtr rfl rfl) ?_
  refine l_x rfl (x_pick_f rfl rfl) ?_
  refine l_nil ?_
  refine r_ifd rfl (fun hc28 => ?_) (fun hc28 => ?_)
  ·skip
   refine r_seq ?_
   refine r_region ?_
   refine l_a rfl ?_
   refine l_nil ?_
   refine r_ret (rs := [.tmp 2]) [_] Tryz.func140 rfl ⟨rfl, trivial⟩ ?_
   exact ⟨congrArg (Value.int .i64) (by exact (val_bad (by omega) hc (by unfold digB; simp_all <;> omega)).symm), S1.le⟩
  refine r_skip ?_
  refine r_region ?_
  refine l_m rfl ?_
  refine l_x rfl (x_mul rfl rfl (by omega)) ?_
  refine l_m rfl ?_
  refine l_m rfl ?_
  refine l_x rfl (x_idxbs (i := i) (c := c) rfl rfl Tryz.runUnderlying9 hc) ?_
  refine l_x rfl (x_convert rfl Tryz.runUnderlying5 Tryz.runUnderlying3 (i64_in (by omega))) ?_
  refine l_x rfl (x_add rfl rfl (by omega)) ?_
  refine l_x rfl (x_sub rfl rfl (by omega)) ?_
  refine l_a rfl ?_
  refine l_nil ?_
  refine r_inBlock ?_
  refine r_region ?_
  refine l_m rfl ?_
  refine l_x rfl (x_add rfl rfl (by omega)) ?_
  refine l_a rfl ?_
  refine l_nil ?_
  exact IH (i + 1) _ _ (by omega) ⟨rfl, (congrArg (Value.int .i64) (val_step hc).symm), rfl, trivial⟩ ⟨by omega, dig_step hd hc (by unfold digB; simp_all <;> omega), (S1.take 0)⟩
 obtain rfl : i = s.length := by omega
 refine r_exit rfl ?_
 refine r_seq ?_
 refine r_region ?_
 refine l_m rfl ?_
 refine l_a rfl ?_
 refine l_nil ?_
 refine r_ret (rs := [.tmp 2]) [_] Tryz.func140 rfl ⟨rfl, trivial⟩ ?_
 exact ⟨congrArg (Value.int .i64) (by rw [List.take_length] at hd ⊢; exact (val_good (by omega) hd).symm), S1.le⟩

theorem no_word {p i : Nat} {s : List UInt8} (h : ∀ q : Nat, q < i → wordAt p (q : Int) ≠ s) (hi : ¬ wordAt p (i : Int) = s) : ∀ q : Nat, q < i + 1 → wordAt p (q : Int) ≠ s := fun q hq => by
 rcases Nat.lt_or_ge q i with g | g
 ·exact h q g
 rw [show q = i by omega]; exact hi
theorem sgr_at {p i : Nat} {s : List UInt8} (hi : i ≤ 4) (h : wordAt p (i : Int) = s) : (i : Int) = sgnR p s := by
 unfold sgnR
 rw [← h, sgn_word (by omega) (.inl (by omega))]; rfl
theorem sgr_worn {p : Nat} {s : List UInt8} (h : s = wornW) : (9 : Int) = sgnR p s := by unfold sgnR; rw [sgn_worn h]; rfl
theorem sgr_none {p : Nat} {s : List UInt8} (h : ∀ q : Nat, q < 5 → wordAt p (q : Int) ≠ s) (hw : ¬ s = wornW) : (8 : Int) = sgnR p s := by
 unfold sgnR
 cases e : sgnW (wordsW p) s with
 | none => rfl
 | some g =>
  obtain ⟨h1, h2, h3⟩ := word_sgn e
  rcases h3 with h3 | h3
  ·have := h g.toNat (by omega)
   rw [show ((g.toNat : Nat) : Int) = g by omega] at this
   exact absurd h1 this
  rw [h3] at h1
  exact absurd h1.symm hw

set_option maxHeartbeats 1000000 in
theorem c_rsign (p : Nat) (s : List UInt8) (w : World) :
  Cl Tryz.prog 141 #[Value.int .i64 (p : Int), .string (bs s)] w fun v w' => v = .int .u8 (sgnR p s) ∧ Le w w' := by
 refine fn_of_run (args := [_, _]) 18 Tryz.func141 rfl rfl rfl fun cs => ?_
 have S := Own.start (X := nob) w
 refine r_seq ?_
 refine r_region ?_
 refine l_a rfl ?_
 refine l_nil ?_
 refine r_seq ?_
 refine r_seq ?_
 refine r_region ?_
 refine l_a rfl ?_
 refine l_nil ?_
 refine r_block ?_
 refine r_loop (G := Nat) (fun i => 5 - i) (fun i => [(0, Value.int .i64 (p : Int)), (1, .string (bs s)), (5, Value.int .u8 (i : Int))]) (fun i w' => (i ≤ 5) ∧ (∀ q : Nat, q < i → wordAt p (q : Int) ≠ s) ∧ Own nob w w' []) 0 ⟨rfl, rfl, rfl, trivial⟩ ⟨Nat.zero_le _, fun q h => absurd h (Nat.not_lt_zero q), (S.take 0)⟩ ?_
 rintro i ρ w1 ⟨hi, hno, S1⟩ IH
 refine r_seq ?_
 refine r_seq ?_
 refine r_region ?_
 refine l_m rfl ?_
 refine l_x rfl (x_leq rfl rfl) ?_
 refine l_nil ?_
 refine r_ifd rfl (fun hc7 => ?_) (fun hc7 => ?_)
 ·skip
  refine r_skip ?_
  refine r_seq ?_
  refine r_block ?_
  refine r_seq ?_
  refine r_region ?_
  refine l_m rfl ?_
  refine l_m rfl ?_
  refine l_call [] [] [_, _] rfl rfl Tryz.call187 rfl (c_rword p (i : Int) (by omega) (.inl (by omega)) _) ?_
  rintro _ w1 ⟨rfl, hl3⟩
  have S2 := S1.step hl3
  refine l_m rfl ?_
  refine l_x rfl (x_eqbs (a := wordAt p (i : Int)) (b := s) rfl rfl) ?_
  refine l_nil ?_
  refine r_ifd rfl (fun hc14 => ?_) (fun hc14 => ?_)
  ·skip
   refine r_seq ?_
   refine r_region ?_
   refine l_m rfl ?_
   refine l_a rfl ?_
   refine l_nil ?_
   refine r_ret (rs := [.tmp 4]) [_] Tryz.func141 rfl ⟨rfl, trivial⟩ ?_
   exact ⟨congrArg (Value.int .u8) (sgr_at (by omega) hc14), S2.le⟩
  refine r_skip ?_
  refine r_inBlock ?_
  refine r_region ?_
  refine l_m rfl ?_
  refine l_x rfl (x_add8 rfl rfl (by omega)) ?_
  refine l_a rfl ?_
  refine l_nil ?_
  exact IH (i + 1) _ _ (by omega) ⟨rfl, rfl, rfl, trivial⟩ ⟨by omega, no_word hno hc14, (S2.take 0)⟩
 obtain rfl : i = 5 := by omega
 refine r_exit rfl ?_
 refine r_seq ?_
 refine r_seq ?_
 refine r_region ?_
 refine l_m rfl ?_
 refine l_x rfl (x_eqbs (a := s) (b := wornW) rfl rfl) ?_
 refine l_nil ?_
 refine r_ifd rfl (fun hc17 => ?_) (fun hc17 => ?_)
 ·skip
  refine r_seq ?_
  refine r_region ?_
  refine l_a rfl ?_
  refine l_nil ?_
  refine r_ret (rs := [.tmp 4]) [_] Tryz.func141 rfl ⟨rfl, trivial⟩ ?_
  exact ⟨congrArg (Value.int .u8) (sgr_worn hc17), S1.le⟩
 refine r_skip ?_
 refine r_seq ?_
 refine r_region ?_
 refine l_a rfl ?_
 refine l_nil ?_
 refine r_ret (rs := [.tmp 4]) [_] Tryz.func141 rfl ⟨rfl, trivial⟩ ?_
 exact ⟨congrArg (Value.int .u8) (sgr_none hno hc17), S1.le⟩

end Go.Proofs

namespace Go.Proofs
open Go Go.Vk Go.Vk.Flow

open Go.Vk.Mark
open Go.Vk.Deed (i64 rng rng_iff owners sumI sumI_cons sumI_snoc)

theorem mkb_lt {m : Mk} {i : Nat} (h : i < 6) : 3 + i * 1 < (encMk m).length := by show _ < 9; omega
theorem mkb_set {m : Mk} {i : Nat} {x : Int} (h : i < 6) : (encMk m).set (3 + i * 1) (u8 x) = encMk ⟨m.owner, m.frm, m.til, m.s.put i x⟩ := by
 have hi : i = 0 ∨ i = 1 ∨ i = 2 ∨ i = 3 ∨ i = 4 ∨ i = 5 := by omega
 rcases hi with rfl | rfl | rfl | rfl | rfl | rfl <;> rfl
def seenQ (l : List (List UInt8)) (d i : Nat) : Sg := Sg.of fun p => if p < i then sgnR p (l.getD (d + p) []) else 0
theorem seenQ_step {l : List (List UInt8)} {d i : Nat} {x : List UInt8} (hi : i < 6) (hx : l[d + i]? = some x) : (seenQ l d i).put i (sgnR i x) = seenQ l d (i + 1) := by
 unfold Sg.put seenQ
 refine sg_congr fun k hk => ?_
 by_cases e : k = i
 ·subst e; rw [if_pos rfl, if_pos (by omega), getD_at hx]
 rw [if_neg e, sg_of_get hk]
 by_cases g : k < i
 ·rw [if_pos g, if_pos (by omega)]
 rw [if_neg g, if_neg (by omega)]
theorem seenQ_all {l : List (List UInt8)} {d : Nat} : seenQ l d 6 = seenR l d := sg_congr fun k hk => by rw [if_pos hk]
theorem valS_bd {s : List UInt8} : -1 ≤ valS s ∧ valS s ≤ 1000000000 := by
 unfold valS
 split
 ·omega
 split
 ·rename_i h h2
  have := val_lt (s := s) (i := s.length) h2 (by omega)
  rw [List.take_length] at this
  omega
 omega
theorem mark_q {l : List (List UInt8)} {x0 x1 x2 : List UInt8} (h0 : l[0]? = some x0) (h1 : l[1]? = some x1) (h2 : l[2]? = some x2) : (⟨valS x0, valS x1, valS x2, seenQ l 3 6⟩ : Mk) = markR l := by
 unfold markR; rw [getD_at h0, getD_at h1, getD_at h2, seenQ_all]
theorem markR_ok {l : List (List UInt8)} : MkOk (markR l) := by
 have h0 := valS_bd (s := l.getD 0 []); have h1 := valS_bd (s := l.getD 1 []); have h2 := valS_bd (s := l.getD 2 [])
 exact ⟨by unfold markR B64; constructor <;> (simp only; omega), by unfold markR B64; constructor <;> (simp only; omega), by unfold markR B64; constructor <;> (simp only; omega), seenR_ok 3⟩
theorem rm_no {line : List UInt8} (h : ¬ ((splitW line).length = 9 ∧ markB (markR (splitW line)) = true ∧ writeW (markR (splitW line)) = line)) : rmR line = none := if_neg h
theorem rm_yes {line : List UInt8} (h : (splitW line).length = 9 ∧ markB (markR (splitW line)) = true ∧ writeW (markR (splitW line)) = line) : rmR line = some (markR (splitW line)) := if_pos h
theorem rs_no {line : List UInt8} (h : ¬ ((splitW line).length = 6 ∧ sightB (seenR (splitW line) 0) = true ∧ toldW (seenR (splitW line) 0) = line)) : rsR line = none := if_neg h
theorem rs_yes {line : List UInt8} (h : (splitW line).length = 6 ∧ sightB (seenR (splitW line) 0) = true ∧ toldW (seenR (splitW line) 0) = line) : rsR line = some (seenR (splitW line) 0) := if_pos h

theorem split_cnt {l : List UInt8} : (splitW l).length ≤ l.length + 1 := by
 rw [split_L]
 induction l with
 | nil => simp [splitL]
 | cons c r ih =>
  rw [splitL]
  split
  ·simp only [List.length_cons]; omega
  cases e : splitL r with
  | nil => simp
  | cons y ys => rw [e] at ih; simp only [List.length_cons] at ih ⊢; omega

set_option maxHeartbeats 8000000 in
theorem c_rRead (line : List UInt8) (hln : line.length ≤ 900) (w : World) :
  Cl Tryz.prog 67 #[.string (bs line)] w fun v w' => v = .tuple #[Value.agg (encMk ((rmR line).getD zeroMk)).toArray, .int .i64 (if (rmR line).isSome = true then 0 else 4)] ∧ Le w w' := by
 refine fn_of_run (args := [_]) 56 Tryz.func67 rfl rfl rfl fun cs => ?_
 have S := Own.start (X := nob) w
 refine r_seq ?_
 refine r_region ?_
 refine l_alloc S rfl Tryz.zeroValue39 rfl ?_
 intro b4 w1 S2 hl3
 refine l_a rfl ?_
 refine l_nil ?_
 refine r_seq ?_
 refine r_region ?_
 refine l_m rfl ?_
 refine l_call [] [] [_] rfl rfl Tryz.call139 rfl (c_rwords line hln _) ?_
 rintro v105 w5 ⟨hN105, hl105⟩
 have S6 := S2.add hl105 hN105
 have hsl9 := split_cnt (l := line)
 refine l_a rfl ?_
 refine l_nil ?_
 refine r_seq ?_
 refine r_seq ?_
 refine r_region ?_
 refine l_m rfl ?_
 refine l_x rfl (x_len (vec_rd (S6.at 1 rfl)) rfl Tryz.runUnderlying168) ?_
 refine l_x rfl (x_neq rfl rfl) ?_
 refine l_nil ?_
 refine r_ifd rfl (fun hc13 => ?_) (fun hc13 => ?_)
 ·skip
  refine r_seq ?_
  refine r_region ?_
  refine l_x rfl (x_buildS (out := [_, _, _, _, _, _, _, _, _]) (ss := [1, 1, 1, 6]) Tryz.zeroValue39 rfl Tryz.runUnderlying39 ⟨Tryz.sizeOf3, Tryz.sizeOf3, Tryz.sizeOf3, Tryz.sizeOf28, trivial⟩ fill_nil) ?_
  refine l_stores (vs := [_, _, _, _, _, _, _, _, _]) S6 0 rfl rfl rfl rfl (ones_cons rfl (ones_cons rfl (ones_cons rfl (ones_cons rfl (ones_cons rfl (ones_cons rfl (ones_cons rfl (ones_cons rfl (ones_cons rfl ones_nil))))))))) Tryz.sizeOf39 (by first | exact Nat.le_refl _ | simp) (splice_all rfl) ?_
  intro w7 S8 hk9
  refine l_a rfl ?_
  refine l_nil ?_
  refine r_ret (rs := [.cell 2 39, .tmp 3]) [_, _] Tryz.func67 rfl ⟨⟨_, rfl, (ld_blks (S8.blk 0 rfl) Tryz.isAgg39 Tryz.sizeOf39 rfl rfl)⟩, rfl, trivial⟩ ?_
  have hn9 := rm_no (line := line) (fun h => hc13 (by have := h.1; omega))
  exact ⟨by rw [hn9]; rfl, S8.le⟩
 have hl9 : (splitW line).length = 9 := by omega
 obtain ⟨x0, hz0⟩ : ∃ x, (splitW line)[0]? = some x := ⟨_, List.getElem?_eq_getElem (by omega)⟩
 obtain ⟨x1, hz1⟩ : ∃ x, (splitW line)[1]? = some x := ⟨_, List.getElem?_eq_getElem (by omega)⟩
 obtain ⟨x2, hz2⟩ : ∃ x, (splitW line)[2]? = some x := ⟨_, List.getElem?_eq_getElem (by omega)⟩
 refine r_skip ?_
 refine r_seq ?_
 refine r_drawE 14 nob Tryz.mixed (by kernel_rfl) ?_
 intro w10 hl11
 have S12 := S6.step hl11
 refine e_exact 0 _ (by kernel_rfl) rfl rfl (by kernel_rfl) rfl (ex_x rfl (fun w1 h1 => x_mv rfl)) ?_
 refine e_index EST 1 (by kernel_rfl) rfl rfl (by kernel_rfl) rfl rfl (vec_rd (S12.at 1 rfl)) rfl rfl Tryz.runUnderlying168 Tryz.sizeOf9 (by omega) hz0 ?_
 intro b13 o14 hat15
 refine e_exact 2 _ (by kernel_rfl) rfl rfl (by kernel_rfl) rfl (ex_x rfl (fun w1 h1 => x_load rfl (ld_cell Tryz.isAgg9 ((rd_row (vec_rd ((S12.step h1).at 1 rfl)) hat15 hz0) 0 _ rfl)))) ?_
 refine e_exact 4 _ (by kernel_rfl) rfl rfl (by kernel_rfl) rfl (ex_x rfl (fun w1 h1 => x_mv rfl)) ?_
 refine e_index EST 5 (by kernel_rfl) rfl rfl (by kernel_rfl) rfl rfl (vec_rd (S12.at 1 rfl)) rfl rfl Tryz.runUnderlying168 Tryz.sizeOf9 (by omega) hz1 ?_
 intro b16 o17 hat18
 refine e_exact 6 _ (by kernel_rfl) rfl rfl (by kernel_rfl) rfl (ex_x rfl (fun w1 h1 => x_load rfl (ld_cell Tryz.isAgg9 ((rd_row (vec_rd ((S12.step h1).at 1 rfl)) hat18 hz1) 0 _ rfl)))) ?_
 refine e_exact 8 _ (by kernel_rfl) rfl rfl (by kernel_rfl) rfl (ex_x rfl (fun w1 h1 => x_mv rfl)) ?_
 refine e_index EST 9 (by kernel_rfl) rfl rfl (by kernel_rfl) rfl rfl (vec_rd (S12.at 1 rfl)) rfl rfl Tryz.runUnderlying168 Tryz.sizeOf9 (by omega) hz2 ?_
 intro b19 o20 hat21
 refine e_exact 10 _ (by kernel_rfl) rfl rfl (by kernel_rfl) rfl (ex_x rfl (fun w1 h1 => x_load rfl (ld_cell Tryz.isAgg9 ((rd_row (vec_rd ((S12.step h1).at 1 rfl)) hat21 hz2) 0 _ rfl)))) ?_
 refine e_next [3, 13] (by kernel_rfl) (by kernel_rfl) ⟨⟨_, _, rfl, rfl, ?_⟩, ⟨_, _, rfl, rfl, ?_⟩, trivial⟩
 ·skip
  refine s_callf [] [] [_] rfl rfl Tryz.call140 rfl ((c_rvalue x0 (by have := split_len9 (List.mem_of_getElem? hz0); omega) _).mono ?_)
  rintro _ w22 ⟨rfl, hl24⟩
  have S23 := S12.step hl24
  refine ⟨.of_le hl24, ?_⟩
  refine e_next [7, 13] (by kernel_rfl) (by kernel_rfl) ⟨⟨_, _, rfl, rfl, ?_⟩, ⟨_, _, rfl, rfl, ?_⟩, trivial⟩
  ·skip
   refine s_callf [] [] [_] rfl rfl Tryz.call140 rfl ((c_rvalue x1 (by have := split_len9 (List.mem_of_getElem? hz1); omega) _).mono ?_)
   rintro _ w25 ⟨rfl, hl27⟩
   have S26 := S23.step hl27
   refine ⟨.of_le hl27, ?_⟩
   refine e_next [11, 13] (by kernel_rfl) (by kernel_rfl) ⟨⟨_, _, rfl, rfl, ?_⟩, ⟨_, _, rfl, rfl, ?_⟩, trivial⟩
   ·skip
    refine s_callf [] [] [_] rfl rfl Tryz.call140 rfl ((c_rvalue x2 (by have := split_len9 (List.mem_of_getElem? hz2); omega) _).mono ?_)
    rintro _ w28 ⟨rfl, hl30⟩
    have S29 := S26.step hl30
    refine ⟨.of_le hl30, ?_⟩
    refine e_exact 12 _ (by kernel_rfl) rfl rfl (by kernel_rfl) rfl (ex_x rfl (fun w1 h1 => x_buildS (out := [_, _, _, _, _, _, _, _, _]) (ss := [1, 1, 1, 6]) Tryz.zeroValue39 rfl Tryz.runUnderlying39 ⟨Tryz.sizeOf3, Tryz.sizeOf3, Tryz.sizeOf3, Tryz.sizeOf28, trivial⟩ (fill_cons rfl rfl rfl (Nat.le_of_ble_eq_true rfl) (fill_cons rfl rfl rfl (Nat.le_of_ble_eq_true rfl) (fill_cons rfl rfl rfl (Nat.le_of_ble_eq_true rfl) fill_nil))))) ?_
    refine e_next [13] (by kernel_rfl) (by kernel_rfl) ⟨⟨_, _, rfl, rfl, ?_⟩, trivial⟩
    refine s_alloc S29 rfl Tryz.zeroValue39 rfl ?_
    intro b34 w31 S32 hl33
    refine ⟨.of_le hl33, ?_⟩
    refine e_done (by kernel_rfl) ?_
    refine l_stores (vs := [_, _, _, _, _, _, _, _, _]) S32 2 rfl rfl rfl rfl (ones_cons rfl (ones_cons rfl (ones_cons rfl (ones_cons rfl (ones_cons rfl (ones_cons rfl (ones_cons rfl (ones_cons rfl (ones_cons rfl ones_nil))))))))) Tryz.sizeOf39 (by first | exact Nat.le_refl _ | simp) (splice_all rfl) ?_
    intro w35 S36 hk37
    refine l_nil ?_
    refine r_seq ?_
    refine r_seq ?_
    refine r_region ?_
    refine l_a rfl ?_
    refine l_nil ?_
    refine r_block ?_
    refine r_loop (G := Nat) (fun i => 6 - i) (fun i => [(0, .string (bs line)), (2, .pointer (some ⟨b4, 0, none⟩)), (4, v105), (5, .pointer (some ⟨b34, 0, none⟩)), (6, Value.int .i64 i)]) (fun i w' => (i ≤ 6) ∧ Own nob w w' [blk b4 (encMk zeroMk) 39, vec EST v105 (splitW line), blk b34 (encMk ⟨valS x0, valS x1, valS x2, seenQ (splitW line) 3 i⟩) 39]) 0 ⟨rfl, rfl, rfl, rfl, rfl, trivial⟩ ⟨Nat.zero_le _, (S36.pick (L' := [_, _, _]) [0, 1, 2] (by decide) rfl)⟩ ?_
    rintro i ρ w1 ⟨hi, S1⟩ IH
    refine r_seq ?_
    refine r_seq ?_
    refine r_region ?_
    refine l_m rfl ?_
    refine l_x rfl (x_lss rfl rfl) ?_
    refine l_nil ?_
    refine r_ifd rfl (fun hc29 => ?_) (fun hc29 => ?_)
    ·skip
     obtain ⟨x, hx⟩ : ∃ x, (splitW line)[3 + i]? = some x := ⟨_, List.getElem?_eq_getElem (by omega)⟩
     refine r_skip ?_
     refine r_seq ?_
     refine r_block ?_
     refine r_region ?_
     refine l_m rfl ?_
     refine l_m rfl ?_
     refine l_m rfl ?_
     refine l_m rfl ?_
     refine l_x rfl (x_add rfl rfl (by omega)) ?_
     refine l_index EST rfl (vec_rd (S1.at 1 rfl)) rfl rfl Tryz.runUnderlying168 Tryz.sizeOf9 (by omega) (by rw [show (3 + (i : Int)).toNat = 3 + i by omega]; exact hx) ?_
     intro b38 o39 hat40 row41
     refine l_x rfl (x_load rfl (ld_cell Tryz.isAgg9 (row41 0 _ rfl))) ?_
     refine l_call [] [] [_, _] rfl rfl Tryz.call141 rfl (c_rsign i x _) ?_
     rintro _ w42 ⟨rfl, hl44⟩
     have S43 := S1.step hl44
     refine l_x rfl (x_fieldAddr rfl Tryz.runUnderlying39 rfl Tryz.sizeOf28 (by decide)) ?_
     refine l_x rfl (x_indexAddr_array rfl rfl Tryz.runUnderlying28 Tryz.sizeOf5 (by omega)) ?_
     refine l_storeq S43 2 rfl rfl rfl rfl rfl Tryz.sizeOf5 (mkb_lt (by omega)) (mkb_set (by omega)) ?_
     intro w45 S46 hk47
     refine l_nil ?_
     refine r_inBlock ?_
     refine r_region ?_
     refine l_m rfl ?_
     refine l_x rfl (x_add rfl rfl (by omega)) ?_
     refine l_a rfl ?_
     refine l_nil ?_
     exact IH (i + 1) _ _ (by omega) ⟨rfl, rfl, rfl, rfl, rfl, trivial⟩ ⟨by omega, (by have h := S46.take 3; rw [← seenQ_step (by omega) hx]; exact h)⟩
    obtain rfl : i = 6 := by omega
    rw [mark_q hz0 hz1 hz2] at S1
    refine r_exit rfl ?_
    refine r_seq ?_
    refine r_region ?_
    refine l_x rfl (x_load rfl (ld_blks (S1.blk 2 rfl) Tryz.isAgg39 Tryz.sizeOf39 rfl rfl)) ?_
    refine l_call [] [] [_] rfl rfl Tryz.call65 rfl (c_rWrite (markR (splitW line)) markR_ok _) ?_
    rintro _ w48 (⟨hmb9, rfl, hl4448⟩ | ⟨hmb9, rfl, hl4448⟩)
    ·skip
     have S49 := S1.step hl4448
     refine l_m rfl ?_
     refine l_x rfl (x_extract rfl rfl) ?_
     refine l_x rfl (x_extract rfl rfl) ?_
     refine l_a rfl ?_
     refine l_a rfl ?_
     refine l_nil ?_
     refine r_seq ?_
     refine r_seq ?_
     refine r_region ?_
     refine l_m rfl ?_
     refine l_x rfl (x_neq rfl rfl) ?_
     refine l_m rfl ?_
     refine l_splitd (d := 49) rfl (fun hg49 => ?_) (fun hg49 => ?_)
     ·skip
      refine l_pass rfl ?_
      refine l_pass rfl ?_
      refine l_pass rfl ?_
      refine l_x rfl (x_pick_t rfl rfl) ?_
      refine l_nil ?_
      refine r_true rfl ?_
      refine r_seq ?_
      refine r_region ?_
      refine l_x rfl (x_buildS (out := [_, _, _, _, _, _, _, _, _]) (ss := [1, 1, 1, 6]) Tryz.zeroValue39 rfl Tryz.runUnderlying39 ⟨Tryz.sizeOf3, Tryz.sizeOf3, Tryz.sizeOf3, Tryz.sizeOf28, trivial⟩ fill_nil) ?_
      refine l_stores (vs := [_, _, _, _, _, _, _, _, _]) S49 0 rfl rfl rfl rfl (ones_cons rfl (ones_cons rfl (ones_cons rfl (ones_cons rfl (ones_cons rfl (ones_cons rfl (ones_cons rfl (ones_cons rfl (ones_cons rfl ones_nil))))))))) Tryz.sizeOf39 (by first | exact Nat.le_refl _ | simp) (splice_all rfl) ?_
      intro w50 S51 hk52
      refine l_a rfl ?_
      refine l_nil ?_
      refine r_ret (rs := [.cell 2 39, .tmp 3]) [_, _] Tryz.func67 rfl ⟨⟨_, rfl, (ld_blks (S51.blk 0 rfl) Tryz.isAgg39 Tryz.sizeOf39 rfl rfl)⟩, rfl, trivial⟩ ?_
      have hn9 := rm_no (line := line) (fun h => by rw [h.2.1] at hmb9; cases hmb9)
      exact ⟨by rw [hn9]; rfl, S51.le⟩
     exact absurd (by decide) hg49
    have S53 := S1.step hl4448
    refine l_m rfl ?_
    refine l_x rfl (x_extract rfl rfl) ?_
    refine l_x rfl (x_extract rfl rfl) ?_
    refine l_a rfl ?_
    refine l_a rfl ?_
    refine l_nil ?_
    refine r_seq ?_
    refine r_seq ?_
    refine r_region ?_
    refine l_m rfl ?_
    refine l_x rfl (x_neq rfl rfl) ?_
    refine l_m rfl ?_
    refine l_splitd (d := 49) rfl (fun hg49 => ?_) (fun hg49 => ?_)
    ·exact absurd rfl hg49
    refine l_m rfl ?_
    refine l_m rfl ?_
    refine l_x rfl (x_nebs (a := writeW (markR (splitW line))) (b := line) rfl rfl) ?_
    refine l_x rfl (x_pick_f rfl rfl) ?_
    refine l_nil ?_
    refine r_if rfl (fun hc53 => ?_) (fun hc53 => ?_)
    ·skip
     refine r_seq ?_
     refine r_region ?_
     refine l_x rfl (x_buildS (out := [_, _, _, _, _, _, _, _, _]) (ss := [1, 1, 1, 6]) Tryz.zeroValue39 rfl Tryz.runUnderlying39 ⟨Tryz.sizeOf3, Tryz.sizeOf3, Tryz.sizeOf3, Tryz.sizeOf28, trivial⟩ fill_nil) ?_
     refine l_stores (vs := [_, _, _, _, _, _, _, _, _]) S53 0 rfl rfl rfl rfl (ones_cons rfl (ones_cons rfl (ones_cons rfl (ones_cons rfl (ones_cons rfl (ones_cons rfl (ones_cons rfl (ones_cons rfl (ones_cons rfl ones_nil))))))))) Tryz.sizeOf39 (by first | exact Nat.le_refl _ | simp) (splice_all rfl) ?_
     intro w54 S55 hk56
     refine l_a rfl ?_
     refine l_nil ?_
     refine r_ret (rs := [.cell 2 39, .tmp 3]) [_, _] Tryz.func67 rfl ⟨⟨_, rfl, (ld_blks (S55.blk 0 rfl) Tryz.isAgg39 Tryz.sizeOf39 rfl rfl)⟩, rfl, trivial⟩ ?_
     have hn9 := rm_no (line := line) (fun h => by simp [h.2.2] at hc53)
     exact ⟨by rw [hn9]; rfl, S55.le⟩
    refine r_skip ?_
    refine r_seq ?_
    refine r_region ?_
    refine l_x rfl (x_load rfl (ld_blks (S53.blk 2 rfl) Tryz.isAgg39 Tryz.sizeOf39 rfl rfl)) ?_
    refine l_stores (vs := [_, _, _, _, _, _, _, _, _]) S53 0 rfl rfl rfl rfl (ones_cons rfl (ones_cons rfl (ones_cons rfl (ones_cons rfl (ones_cons rfl (ones_cons rfl (ones_cons rfl (ones_cons rfl (ones_cons rfl ones_nil))))))))) Tryz.sizeOf39 (by first | exact Nat.le_refl _ | simp) (splice_all rfl) ?_
    intro w57 S58 hk59
    refine l_a rfl ?_
    refine l_nil ?_
    refine r_ret (rs := [.cell 2 39, .tmp 3]) [_, _] Tryz.func67 rfl ⟨⟨_, rfl, (ld_blks (S58.blk 0 rfl) Tryz.isAgg39 Tryz.sizeOf39 rfl rfl)⟩, rfl, trivial⟩ ?_
    have hy9 := rm_yes (line := line) ⟨by omega, hmb9, by simpa using hc53⟩
    exact ⟨by rw [hy9]; rfl, S58.le⟩
   refine s_alloc S26 rfl Tryz.zeroValue39 rfl ?_
   intro b63 w60 S61 hl62
   refine ⟨.of_le hl62, ?_⟩
   refine e_next [11] (by kernel_rfl) (by kernel_rfl) ⟨⟨_, _, rfl, rfl, ?_⟩, trivial⟩
   refine s_callf [] [] [_] rfl rfl Tryz.call140 rfl ((c_rvalue x2 (by have := split_len9 (List.mem_of_getElem? hz2); omega) _).mono ?_)
   rintro _ w64 ⟨rfl, hl66⟩
   have S65 := S61.step hl66
   refine ⟨.of_le hl66, ?_⟩
   refine e_exact 12 _ (by kernel_rfl) rfl rfl (by kernel_rfl) rfl (ex_x rfl (fun w1 h1 => x_buildS (out := [_, _, _, _, _, _, _, _, _]) (ss := [1, 1, 1, 6]) Tryz.zeroValue39 rfl Tryz.runUnderlying39 ⟨Tryz.sizeOf3, Tryz.sizeOf3, Tryz.sizeOf3, Tryz.sizeOf28, trivial⟩ (fill_cons rfl rfl rfl (Nat.le_of_ble_eq_true rfl) (fill_cons rfl rfl rfl (Nat.le_of_ble_eq_true rfl) (fill_cons rfl rfl rfl (Nat.le_of_ble_eq_true rfl) fill_nil))))) ?_
   refine e_done (by kernel_rfl) ?_
   refine l_stores (vs := [_, _, _, _, _, _, _, _, _]) S65 2 rfl rfl rfl rfl (ones_cons rfl (ones_cons rfl (ones_cons rfl (ones_cons rfl (ones_cons rfl (ones_cons rfl (ones_cons rfl (ones_cons rfl (ones_cons rfl ones_nil))))))))) Tryz.sizeOf39 (by first | exact Nat.le_refl _ | simp) (splice_all rfl) ?_
   intro w67 S68 hk69
   refine l_nil ?_
   refine r_seq ?_
   refine r_seq ?_
   refine r_region ?_
   refine l_a rfl ?_
   refine l_nil ?_
   refine r_block ?_
   refine r_loop (G := Nat) (fun i => 6 - i) (fun i => [(0, .string (bs line)), (2, .pointer (some ⟨b4, 0, none⟩)), (4, v105), (5, .pointer (some ⟨b63, 0, none⟩)), (6, Value.int .i64 i)]) (fun i w' => (i ≤ 6) ∧ Own nob w w' [blk b4 (encMk zeroMk) 39, vec EST v105 (splitW line), blk b63 (encMk ⟨valS x0, valS x1, valS x2, seenQ (splitW line) 3 i⟩) 39]) 0 ⟨rfl, rfl, rfl, rfl, rfl, trivial⟩ ⟨Nat.zero_le _, (S68.pick (L' := [_, _, _]) [0, 1, 2] (by decide) rfl)⟩ ?_
   rintro i ρ w1 ⟨hi, S1⟩ IH
   refine r_seq ?_
   refine r_seq ?_
   refine r_region ?_
   refine l_m rfl ?_
   refine l_x rfl (x_lss rfl rfl) ?_
   refine l_nil ?_
   refine r_ifd rfl (fun hc29 => ?_) (fun hc29 => ?_)
   ·skip
    obtain ⟨x, hx⟩ : ∃ x, (splitW line)[3 + i]? = some x := ⟨_, List.getElem?_eq_getElem (by omega)⟩
    refine r_skip ?_
    refine r_seq ?_
    refine r_block ?_
    refine r_region ?_
    refine l_m rfl ?_
    refine l_m rfl ?_
    refine l_m rfl ?_
    refine l_m rfl ?_
    refine l_x rfl (x_add rfl rfl (by omega)) ?_
    refine l_index EST rfl (vec_rd (S1.at 1 rfl)) rfl rfl Tryz.runUnderlying168 Tryz.sizeOf9 (by omega) (by rw [show (3 + (i : Int)).toNat = 3 + i by omega]; exact hx) ?_
    intro b70 o71 hat72 row73
    refine l_x rfl (x_load rfl (ld_cell Tryz.isAgg9 (row73 0 _ rfl))) ?_
    refine l_call [] [] [_, _] rfl rfl Tryz.call141 rfl (c_rsign i x _) ?_
    rintro _ w74 ⟨rfl, hl76⟩
    have S75 := S1.step hl76
    refine l_x rfl (x_fieldAddr rfl Tryz.runUnderlying39 rfl Tryz.sizeOf28 (by decide)) ?_
    refine l_x rfl (x_indexAddr_array rfl rfl Tryz.runUnderlying28 Tryz.sizeOf5 (by omega)) ?_
    refine l_storeq S75 2 rfl rfl rfl rfl rfl Tryz.sizeOf5 (mkb_lt (by omega)) (mkb_set (by omega)) ?_
    intro w77 S78 hk79
    refine l_nil ?_
    refine r_inBlock ?_
    refine r_region ?_
    refine l_m rfl ?_
    refine l_x rfl (x_add rfl rfl (by omega)) ?_
    refine l_a rfl ?_
    refine l_nil ?_
    exact IH (i + 1) _ _ (by omega) ⟨rfl, rfl, rfl, rfl, rfl, trivial⟩ ⟨by omega, (by have h := S78.take 3; rw [← seenQ_step (by omega) hx]; exact h)⟩
   obtain rfl : i = 6 := by omega
   rw [mark_q hz0 hz1 hz2] at S1
   refine r_exit rfl ?_
   refine r_seq ?_
   refine r_region ?_
   refine l_x rfl (x_load rfl (ld_blks (S1.blk 2 rfl) Tryz.isAgg39 Tryz.sizeOf39 rfl rfl)) ?_
   refine l_call [] [] [_] rfl rfl Tryz.call65 rfl (c_rWrite (markR (splitW line)) markR_ok _) ?_
   rintro _ w80 (⟨hmb9, rfl, hl4480⟩ | ⟨hmb9, rfl, hl4480⟩)
   ·skip
    have S81 := S1.step hl4480
    refine l_m rfl ?_
    refine l_x rfl (x_extract rfl rfl) ?_
    refine l_x rfl (x_extract rfl rfl) ?_
    refine l_a rfl ?_
    refine l_a rfl ?_
    refine l_nil ?_
    refine r_seq ?_
    refine r_seq ?_
    refine r_region ?_
    refine l_m rfl ?_
    refine l_x rfl (x_neq rfl rfl) ?_
    refine l_m rfl ?_
    refine l_splitd (d := 49) rfl (fun hg49 => ?_) (fun hg49 => ?_)
    ·skip
     refine l_pass rfl ?_
     refine l_pass rfl ?_
     refine l_pass rfl ?_
     refine l_x rfl (x_pick_t rfl rfl) ?_
     refine l_nil ?_
     refine r_true rfl ?_
     refine r_seq ?_
     refine r_region ?_
     refine l_x rfl (x_buildS (out := [_, _, _, _, _, _, _, _, _]) (ss := [1, 1, 1, 6]) Tryz.zeroValue39 rfl Tryz.runUnderlying39 ⟨Tryz.sizeOf3, Tryz.sizeOf3, Tryz.sizeOf3, Tryz.sizeOf28, trivial⟩ fill_nil) ?_
     refine l_stores (vs := [_, _, _, _, _, _, _, _, _]) S81 0 rfl rfl rfl rfl (ones_cons rfl (ones_cons rfl (ones_cons rfl (ones_cons rfl (ones_cons rfl (ones_cons rfl (ones_cons rfl (ones_cons rfl (ones_cons rfl ones_nil))))))))) Tryz.sizeOf39 (by first | exact Nat.le_refl _ | simp) (splice_all rfl) ?_
     intro w82 S83 hk84
     refine l_a rfl ?_
     refine l_nil ?_
     refine r_ret (rs := [.cell 2 39, .tmp 3]) [_, _] Tryz.func67 rfl ⟨⟨_, rfl, (ld_blks (S83.blk 0 rfl) Tryz.isAgg39 Tryz.sizeOf39 rfl rfl)⟩, rfl, trivial⟩ ?_
     have hn9 := rm_no (line := line) (fun h => by rw [h.2.1] at hmb9; cases hmb9)
     exact ⟨by rw [hn9]; rfl, S83.le⟩
    exact absurd (by decide) hg49
   have S85 := S1.step hl4480
   refine l_m rfl ?_
   refine l_x rfl (x_extract rfl rfl) ?_
   refine l_x rfl (x_extract rfl rfl) ?_
   refine l_a rfl ?_
   refine l_a rfl ?_
   refine l_nil ?_
   refine r_seq ?_
   refine r_seq ?_
   refine r_region ?_
   refine l_m rfl ?_
   refine l_x rfl (x_neq rfl rfl) ?_
   refine l_m rfl ?_
   refine l_splitd (d := 49) rfl (fun hg49 => ?_) (fun hg49 => ?_)
   ·exact absurd rfl hg49
   refine l_m rfl ?_
   refine l_m rfl ?_
   refine l_x rfl (x_nebs (a := writeW (markR (splitW line))) (b := line) rfl rfl) ?_
   refine l_x rfl (x_pick_f rfl rfl) ?_
   refine l_nil ?_
   refine r_if rfl (fun hc53 => ?_) (fun hc53 => ?_)
   ·skip
    refine r_seq ?_
    refine r_region ?_
    refine l_x rfl (x_buildS (out := [_, _, _, _, _, _, _, _, _]) (ss := [1, 1, 1, 6]) Tryz.zeroValue39 rfl Tryz.runUnderlying39 ⟨Tryz.sizeOf3, Tryz.sizeOf3, Tryz.sizeOf3, Tryz.sizeOf28, trivial⟩ fill_nil) ?_
    refine l_stores (vs := [_, _, _, _, _, _, _, _, _]) S85 0 rfl rfl rfl rfl (ones_cons rfl (ones_cons rfl (ones_cons rfl (ones_cons rfl (ones_cons rfl (ones_cons rfl (ones_cons rfl (ones_cons rfl (ones_cons rfl ones_nil))))))))) Tryz.sizeOf39 (by first | exact Nat.le_refl _ | simp) (splice_all rfl) ?_
    intro w86 S87 hk88
    refine l_a rfl ?_
    refine l_nil ?_
    refine r_ret (rs := [.cell 2 39, .tmp 3]) [_, _] Tryz.func67 rfl ⟨⟨_, rfl, (ld_blks (S87.blk 0 rfl) Tryz.isAgg39 Tryz.sizeOf39 rfl rfl)⟩, rfl, trivial⟩ ?_
    have hn9 := rm_no (line := line) (fun h => by simp [h.2.2] at hc53)
    exact ⟨by rw [hn9]; rfl, S87.le⟩
   refine r_skip ?_
   refine r_seq ?_
   refine r_region ?_
   refine l_x rfl (x_load rfl (ld_blks (S85.blk 2 rfl) Tryz.isAgg39 Tryz.sizeOf39 rfl rfl)) ?_
   refine l_stores (vs := [_, _, _, _, _, _, _, _, _]) S85 0 rfl rfl rfl rfl (ones_cons rfl (ones_cons rfl (ones_cons rfl (ones_cons rfl (ones_cons rfl (ones_cons rfl (ones_cons rfl (ones_cons rfl (ones_cons rfl ones_nil))))))))) Tryz.sizeOf39 (by first | exact Nat.le_refl _ | simp) (splice_all rfl) ?_
   intro w89 S90 hk91
   refine l_a rfl ?_
   refine l_nil ?_
   refine r_ret (rs := [.cell 2 39, .tmp 3]) [_, _] Tryz.func67 rfl ⟨⟨_, rfl, (ld_blks (S90.blk 0 rfl) Tryz.isAgg39 Tryz.sizeOf39 rfl rfl)⟩, rfl, trivial⟩ ?_
   have hy9 := rm_yes (line := line) ⟨by omega, hmb9, by simpa using hc53⟩
   exact ⟨by rw [hy9]; rfl, S90.le⟩
  refine s_alloc S23 rfl Tryz.zeroValue39 rfl ?_
  intro b95 w92 S93 hl94
  refine ⟨.of_le hl94, ?_⟩
  refine e_next [7] (by kernel_rfl) (by kernel_rfl) ⟨⟨_, _, rfl, rfl, ?_⟩, trivial⟩
  refine s_callf [] [] [_] rfl rfl Tryz.call140 rfl ((c_rvalue x1 (by have := split_len9 (List.mem_of_getElem? hz1); omega) _).mono ?_)
  rintro _ w96 ⟨rfl, hl98⟩
  have S97 := S93.step hl98
  refine ⟨.of_le hl98, ?_⟩
  refine e_next [11] (by kernel_rfl) (by kernel_rfl) ⟨⟨_, _, rfl, rfl, ?_⟩, trivial⟩
  refine s_callf [] [] [_] rfl rfl Tryz.call140 rfl ((c_rvalue x2 (by have := split_len9 (List.mem_of_getElem? hz2); omega) _).mono ?_)
  rintro _ w99 ⟨rfl, hl101⟩
  have S100 := S97.step hl101
  refine ⟨.of_le hl101, ?_⟩
  refine e_exact 12 _ (by kernel_rfl) rfl rfl (by kernel_rfl) rfl (ex_x rfl (fun w1 h1 => x_buildS (out := [_, _, _, _, _, _, _, _, _]) (ss := [1, 1, 1, 6]) Tryz.zeroValue39 rfl Tryz.runUnderlying39 ⟨Tryz.sizeOf3, Tryz.sizeOf3, Tryz.sizeOf3, Tryz.sizeOf28, trivial⟩ (fill_cons rfl rfl rfl (Nat.le_of_ble_eq_true rfl) (fill_cons rfl rfl rfl (Nat.le_of_ble_eq_true rfl) (fill_cons rfl rfl rfl (Nat.le_of_ble_eq_true rfl) fill_nil))))) ?_
  refine e_done (by kernel_rfl) ?_
  refine l_stores (vs := [_, _, _, _, _, _, _, _, _]) S100 2 rfl rfl rfl rfl (ones_cons rfl (ones_cons rfl (ones_cons rfl (ones_cons rfl (ones_cons rfl (ones_cons rfl (ones_cons rfl (ones_cons rfl (ones_cons rfl ones_nil))))))))) Tryz.sizeOf39 (by first | exact Nat.le_refl _ | simp) (splice_all rfl) ?_
  intro w102 S103 hk104
  refine l_nil ?_
  refine r_seq ?_
  refine r_seq ?_
  refine r_region ?_
  refine l_a rfl ?_
  refine l_nil ?_
  refine r_block ?_
  refine r_loop (G := Nat) (fun i => 6 - i) (fun i => [(0, .string (bs line)), (2, .pointer (some ⟨b4, 0, none⟩)), (4, v105), (5, .pointer (some ⟨b95, 0, none⟩)), (6, Value.int .i64 i)]) (fun i w' => (i ≤ 6) ∧ Own nob w w' [blk b4 (encMk zeroMk) 39, vec EST v105 (splitW line), blk b95 (encMk ⟨valS x0, valS x1, valS x2, seenQ (splitW line) 3 i⟩) 39]) 0 ⟨rfl, rfl, rfl, rfl, rfl, trivial⟩ ⟨Nat.zero_le _, (S103.pick (L' := [_, _, _]) [0, 1, 2] (by decide) rfl)⟩ ?_
  rintro i ρ w1 ⟨hi, S1⟩ IH
  refine r_seq ?_
  refine r_seq ?_
  refine r_region ?_
  refine l_m rfl ?_
  refine l_x rfl (x_lss rfl rfl) ?_
  refine l_nil ?_
  refine r_ifd rfl (fun hc29 => ?_) (fun hc29 => ?_)
  ·skip
   obtain ⟨x, hx⟩ : ∃ x, (splitW line)[3 + i]? = some x := ⟨_, List.getElem?_eq_getElem (by omega)⟩
   refine r_skip ?_
   refine r_seq ?_
   refine r_block ?_
   refine r_region ?_
   refine l_m rfl ?_
   refine l_m rfl ?_
   refine l_m rfl ?_
   refine l_m rfl ?_
   refine l_x rfl (x_add rfl rfl (by omega)) ?_
   refine l_index EST rfl (vec_rd (S1.at 1 rfl)) rfl rfl Tryz.runUnderlying168 Tryz.sizeOf9 (by omega) (by rw [show (3 + (i : Int)).toNat = 3 + i by omega]; exact hx) ?_
   intro b105 o106 hat107 row108
   refine l_x rfl (x_load rfl (ld_cell Tryz.isAgg9 (row108 0 _ rfl))) ?_
   refine l_call [] [] [_, _] rfl rfl Tryz.call141 rfl (c_rsign i x _) ?_
   rintro _ w109 ⟨rfl, hl111⟩
   have S110 := S1.step hl111
   refine l_x rfl (x_fieldAddr rfl Tryz.runUnderlying39 rfl Tryz.sizeOf28 (by decide)) ?_
   refine l_x rfl (x_indexAddr_array rfl rfl Tryz.runUnderlying28 Tryz.sizeOf5 (by omega)) ?_
   refine l_storeq S110 2 rfl rfl rfl rfl rfl Tryz.sizeOf5 (mkb_lt (by omega)) (mkb_set (by omega)) ?_
   intro w112 S113 hk114
   refine l_nil ?_
   refine r_inBlock ?_
   refine r_region ?_
   refine l_m rfl ?_
   refine l_x rfl (x_add rfl rfl (by omega)) ?_
   refine l_a rfl ?_
   refine l_nil ?_
   exact IH (i + 1) _ _ (by omega) ⟨rfl, rfl, rfl, rfl, rfl, trivial⟩ ⟨by omega, (by have h := S113.take 3; rw [← seenQ_step (by omega) hx]; exact h)⟩
  obtain rfl : i = 6 := by omega
  rw [mark_q hz0 hz1 hz2] at S1
  refine r_exit rfl ?_
  refine r_seq ?_
  refine r_region ?_
  refine l_x rfl (x_load rfl (ld_blks (S1.blk 2 rfl) Tryz.isAgg39 Tryz.sizeOf39 rfl rfl)) ?_
  refine l_call [] [] [_] rfl rfl Tryz.call65 rfl (c_rWrite (markR (splitW line)) markR_ok _) ?_
  rintro _ w115 (⟨hmb9, rfl, hl44115⟩ | ⟨hmb9, rfl, hl44115⟩)
  ·skip
   have S116 := S1.step hl44115
   refine l_m rfl ?_
   refine l_x rfl (x_extract rfl rfl) ?_
   refine l_x rfl (x_extract rfl rfl) ?_
   refine l_a rfl ?_
   refine l_a rfl ?_
   refine l_nil ?_
   refine r_seq ?_
   refine r_seq ?_
   refine r_region ?_
   refine l_m rfl ?_
   refine l_x rfl (x_neq rfl rfl) ?_
   refine l_m rfl ?_
   refine l_splitd (d := 49) rfl (fun hg49 => ?_) (fun hg49 => ?_)
   ·skip
    refine l_pass rfl ?_
    refine l_pass rfl ?_
    refine l_pass rfl ?_
    refine l_x rfl (x_pick_t rfl rfl) ?_
    refine l_nil ?_
    refine r_true rfl ?_
    refine r_seq ?_
    refine r_region ?_
    refine l_x rfl (x_buildS (out := [_, _, _, _, _, _, _, _, _]) (ss := [1, 1, 1, 6]) Tryz.zeroValue39 rfl Tryz.runUnderlying39 ⟨Tryz.sizeOf3, Tryz.sizeOf3, Tryz.sizeOf3, Tryz.sizeOf28, trivial⟩ fill_nil) ?_
    refine l_stores (vs := [_, _, _, _, _, _, _, _, _]) S116 0 rfl rfl rfl rfl (ones_cons rfl (ones_cons rfl (ones_cons rfl (ones_cons rfl (ones_cons rfl (ones_cons rfl (ones_cons rfl (ones_cons rfl (ones_cons rfl ones_nil))))))))) Tryz.sizeOf39 (by first | exact Nat.le_refl _ | simp) (splice_all rfl) ?_
    intro w117 S118 hk119
    refine l_a rfl ?_
    refine l_nil ?_
    refine r_ret (rs := [.cell 2 39, .tmp 3]) [_, _] Tryz.func67 rfl ⟨⟨_, rfl, (ld_blks (S118.blk 0 rfl) Tryz.isAgg39 Tryz.sizeOf39 rfl rfl)⟩, rfl, trivial⟩ ?_
    have hn9 := rm_no (line := line) (fun h => by rw [h.2.1] at hmb9; cases hmb9)
    exact ⟨by rw [hn9]; rfl, S118.le⟩
   exact absurd (by decide) hg49
  have S120 := S1.step hl44115
  refine l_m rfl ?_
  refine l_x rfl (x_extract rfl rfl) ?_
  refine l_x rfl (x_extract rfl rfl) ?_
  refine l_a rfl ?_
  refine l_a rfl ?_
  refine l_nil ?_
  refine r_seq ?_
  refine r_seq ?_
  refine r_region ?_
  refine l_m rfl ?_
  refine l_x rfl (x_neq rfl rfl) ?_
  refine l_m rfl ?_
  refine l_splitd (d := 49) rfl (fun hg49 => ?_) (fun hg49 => ?_)
  ·exact absurd rfl hg49
  refine l_m rfl ?_
  refine l_m rfl ?_
  refine l_x rfl (x_nebs (a := writeW (markR (splitW line))) (b := line) rfl rfl) ?_
  refine l_x rfl (x_pick_f rfl rfl) ?_
  refine l_nil ?_
  refine r_if rfl (fun hc53 => ?_) (fun hc53 => ?_)
  ·skip
   refine r_seq ?_
   refine r_region ?_
   refine l_x rfl (x_buildS (out := [_, _, _, _, _, _, _, _, _]) (ss := [1, 1, 1, 6]) Tryz.zeroValue39 rfl Tryz.runUnderlying39 ⟨Tryz.sizeOf3, Tryz.sizeOf3, Tryz.sizeOf3, Tryz.sizeOf28, trivial⟩ fill_nil) ?_
   refine l_stores (vs := [_, _, _, _, _, _, _, _, _]) S120 0 rfl rfl rfl rfl (ones_cons rfl (ones_cons rfl (ones_cons rfl (ones_cons rfl (ones_cons rfl (ones_cons rfl (ones_cons rfl (ones_cons rfl (ones_cons rfl ones_nil))))))))) Tryz.sizeOf39 (by first | exact Nat.le_refl _ | simp) (splice_all rfl) ?_
   intro w121 S122 hk123
   refine l_a rfl ?_
   refine l_nil ?_
   refine r_ret (rs := [.cell 2 39, .tmp 3]) [_, _] Tryz.func67 rfl ⟨⟨_, rfl, (ld_blks (S122.blk 0 rfl) Tryz.isAgg39 Tryz.sizeOf39 rfl rfl)⟩, rfl, trivial⟩ ?_
   have hn9 := rm_no (line := line) (fun h => by simp [h.2.2] at hc53)
   exact ⟨by rw [hn9]; rfl, S122.le⟩
  refine r_skip ?_
  refine r_seq ?_
  refine r_region ?_
  refine l_x rfl (x_load rfl (ld_blks (S120.blk 2 rfl) Tryz.isAgg39 Tryz.sizeOf39 rfl rfl)) ?_
  refine l_stores (vs := [_, _, _, _, _, _, _, _, _]) S120 0 rfl rfl rfl rfl (ones_cons rfl (ones_cons rfl (ones_cons rfl (ones_cons rfl (ones_cons rfl (ones_cons rfl (ones_cons rfl (ones_cons rfl (ones_cons rfl ones_nil))))))))) Tryz.sizeOf39 (by first | exact Nat.le_refl _ | simp) (splice_all rfl) ?_
  intro w124 S125 hk126
  refine l_a rfl ?_
  refine l_nil ?_
  refine r_ret (rs := [.cell 2 39, .tmp 3]) [_, _] Tryz.func67 rfl ⟨⟨_, rfl, (ld_blks (S125.blk 0 rfl) Tryz.isAgg39 Tryz.sizeOf39 rfl rfl)⟩, rfl, trivial⟩ ?_
  have hy9 := rm_yes (line := line) ⟨by omega, hmb9, by simpa using hc53⟩
  exact ⟨by rw [hy9]; rfl, S125.le⟩
 refine s_alloc S12 rfl Tryz.zeroValue39 rfl ?_
 intro b130 w127 S128 hl129
 refine ⟨.of_le hl129, ?_⟩
 refine e_next [3] (by kernel_rfl) (by kernel_rfl) ⟨⟨_, _, rfl, rfl, ?_⟩, trivial⟩
 refine s_callf [] [] [_] rfl rfl Tryz.call140 rfl ((c_rvalue x0 (by have := split_len9 (List.mem_of_getElem? hz0); omega) _).mono ?_)
 rintro _ w131 ⟨rfl, hl133⟩
 have S132 := S128.step hl133
 refine ⟨.of_le hl133, ?_⟩
 refine e_next [7] (by kernel_rfl) (by kernel_rfl) ⟨⟨_, _, rfl, rfl, ?_⟩, trivial⟩
 refine s_callf [] [] [_] rfl rfl Tryz.call140 rfl ((c_rvalue x1 (by have := split_len9 (List.mem_of_getElem? hz1); omega) _).mono ?_)
 rintro _ w134 ⟨rfl, hl136⟩
 have S135 := S132.step hl136
 refine ⟨.of_le hl136, ?_⟩
 refine e_next [11] (by kernel_rfl) (by kernel_rfl) ⟨⟨_, _, rfl, rfl, ?_⟩, trivial⟩
 refine s_callf [] [] [_] rfl rfl Tryz.call140 rfl ((c_rvalue x2 (by have := split_len9 (List.mem_of_getElem? hz2); omega) _).mono ?_)
 rintro _ w137 ⟨rfl, hl139⟩
 have S138 := S135.step hl139
 refine ⟨.of_le hl139, ?_⟩
 refine e_exact 12 _ (by kernel_rfl) rfl rfl (by kernel_rfl) rfl (ex_x rfl (fun w1 h1 => x_buildS (out := [_, _, _, _, _, _, _, _, _]) (ss := [1, 1, 1, 6]) Tryz.zeroValue39 rfl Tryz.runUnderlying39 ⟨Tryz.sizeOf3, Tryz.sizeOf3, Tryz.sizeOf3, Tryz.sizeOf28, trivial⟩ (fill_cons rfl rfl rfl (Nat.le_of_ble_eq_true rfl) (fill_cons rfl rfl rfl (Nat.le_of_ble_eq_true rfl) (fill_cons rfl rfl rfl (Nat.le_of_ble_eq_true rfl) fill_nil))))) ?_
 refine e_done (by kernel_rfl) ?_
 refine l_stores (vs := [_, _, _, _, _, _, _, _, _]) S138 2 rfl rfl rfl rfl (ones_cons rfl (ones_cons rfl (ones_cons rfl (ones_cons rfl (ones_cons rfl (ones_cons rfl (ones_cons rfl (ones_cons rfl (ones_cons rfl ones_nil))))))))) Tryz.sizeOf39 (by first | exact Nat.le_refl _ | simp) (splice_all rfl) ?_
 intro w140 S141 hk142
 refine l_nil ?_
 refine r_seq ?_
 refine r_seq ?_
 refine r_region ?_
 refine l_a rfl ?_
 refine l_nil ?_
 refine r_block ?_
 refine r_loop (G := Nat) (fun i => 6 - i) (fun i => [(0, .string (bs line)), (2, .pointer (some ⟨b4, 0, none⟩)), (4, v105), (5, .pointer (some ⟨b130, 0, none⟩)), (6, Value.int .i64 i)]) (fun i w' => (i ≤ 6) ∧ Own nob w w' [blk b4 (encMk zeroMk) 39, vec EST v105 (splitW line), blk b130 (encMk ⟨valS x0, valS x1, valS x2, seenQ (splitW line) 3 i⟩) 39]) 0 ⟨rfl, rfl, rfl, rfl, rfl, trivial⟩ ⟨Nat.zero_le _, (S141.pick (L' := [_, _, _]) [0, 1, 2] (by decide) rfl)⟩ ?_
 rintro i ρ w1 ⟨hi, S1⟩ IH
 refine r_seq ?_
 refine r_seq ?_
 refine r_region ?_
 refine l_m rfl ?_
 refine l_x rfl (x_lss rfl rfl) ?_
 refine l_nil ?_
 refine r_ifd rfl (fun hc29 => ?_) (fun hc29 => ?_)
 ·skip
  obtain ⟨x, hx⟩ : ∃ x, (splitW line)[3 + i]? = some x := ⟨_, List.getElem?_eq_getElem (by omega)⟩
  refine r_skip ?_
  refine r_seq ?_
  refine r_block ?_
  refine r_region ?_
  refine l_m rfl ?_
  refine l_m rfl ?_
  refine l_m rfl ?_
  refine l_m rfl ?_
  refine l_x rfl (x_add rfl rfl (by omega)) ?_
  refine l_index EST rfl (vec_rd (S1.at 1 rfl)) rfl rfl Tryz.runUnderlying168 Tryz.sizeOf9 (by omega) (by rw [show (3 + (i : Int)).toNat = 3 + i by omega]; exact hx) ?_
  intro b143 o144 hat145 row146
  refine l_x rfl (x_load rfl (ld_cell Tryz.isAgg9 (row146 0 _ rfl))) ?_
  refine l_call [] [] [_, _] rfl rfl Tryz.call141 rfl (c_rsign i x _) ?_
  rintro _ w147 ⟨rfl, hl149⟩
  have S148 := S1.step hl149
  refine l_x rfl (x_fieldAddr rfl Tryz.runUnderlying39 rfl Tryz.sizeOf28 (by decide)) ?_
  refine l_x rfl (x_indexAddr_array rfl rfl Tryz.runUnderlying28 Tryz.sizeOf5 (by omega)) ?_
  refine l_storeq S148 2 rfl rfl rfl rfl rfl Tryz.sizeOf5 (mkb_lt (by omega)) (mkb_set (by omega)) ?_
  intro w150 S151 hk152
  refine l_nil ?_
  refine r_inBlock ?_
  refine r_region ?_
  refine l_m rfl ?_
  refine l_x rfl (x_add rfl rfl (by omega)) ?_
  refine l_a rfl ?_
  refine l_nil ?_
  exact IH (i + 1) _ _ (by omega) ⟨rfl, rfl, rfl, rfl, rfl, trivial⟩ ⟨by omega, (by have h := S151.take 3; rw [← seenQ_step (by omega) hx]; exact h)⟩
 obtain rfl : i = 6 := by omega
 rw [mark_q hz0 hz1 hz2] at S1
 refine r_exit rfl ?_
 refine r_seq ?_
 refine r_region ?_
 refine l_x rfl (x_load rfl (ld_blks (S1.blk 2 rfl) Tryz.isAgg39 Tryz.sizeOf39 rfl rfl)) ?_
 refine l_call [] [] [_] rfl rfl Tryz.call65 rfl (c_rWrite (markR (splitW line)) markR_ok _) ?_
 rintro _ w153 (⟨hmb9, rfl, hl44153⟩ | ⟨hmb9, rfl, hl44153⟩)
 ·skip
  have S154 := S1.step hl44153
  refine l_m rfl ?_
  refine l_x rfl (x_extract rfl rfl) ?_
  refine l_x rfl (x_extract rfl rfl) ?_
  refine l_a rfl ?_
  refine l_a rfl ?_
  refine l_nil ?_
  refine r_seq ?_
  refine r_seq ?_
  refine r_region ?_
  refine l_m rfl ?_
  refine l_x rfl (x_neq rfl rfl) ?_
  refine l_m rfl ?_
  refine l_splitd (d := 49) rfl (fun hg49 => ?_) (fun hg49 => ?_)
  ·skip
   refine l_pass rfl ?_
   refine l_pass rfl ?_
   refine l_pass rfl ?_
   refine l_x rfl (x_pick_t rfl rfl) ?_
   refine l_nil ?_
   refine r_true rfl ?_
   refine r_seq ?_
   refine r_region ?_
   refine l_x rfl (x_buildS (out := [_, _, _, _, _, _, _, _, _]) (ss := [1, 1, 1, 6]) Tryz.zeroValue39 rfl Tryz.runUnderlying39 ⟨Tryz.sizeOf3, Tryz.sizeOf3, Tryz.sizeOf3, Tryz.sizeOf28, trivial⟩ fill_nil) ?_
   refine l_stores (vs := [_, _, _, _, _, _, _, _, _]) S154 0 rfl rfl rfl rfl (ones_cons rfl (ones_cons rfl (ones_cons rfl (ones_cons rfl (ones_cons rfl (ones_cons rfl (ones_cons rfl (ones_cons rfl (ones_cons rfl ones_nil))))))))) Tryz.sizeOf39 (by first | exact Nat.le_refl _ | simp) (splice_all rfl) ?_
   intro w155 S156 hk157
   refine l_a rfl ?_
   refine l_nil ?_
   refine r_ret (rs := [.cell 2 39, .tmp 3]) [_, _] Tryz.func67 rfl ⟨⟨_, rfl, (ld_blks (S156.blk 0 rfl) Tryz.isAgg39 Tryz.sizeOf39 rfl rfl)⟩, rfl, trivial⟩ ?_
   have hn9 := rm_no (line := line) (fun h => by rw [h.2.1] at hmb9; cases hmb9)
   exact ⟨by rw [hn9]; rfl, S156.le⟩
  exact absurd (by decide) hg49
 have S158 := S1.step hl44153
 refine l_m rfl ?_
 refine l_x rfl (x_extract rfl rfl) ?_
 refine l_x rfl (x_extract rfl rfl) ?_
 refine l_a rfl ?_
 refine l_a rfl ?_
 refine l_nil ?_
 refine r_seq ?_
 refine r_seq ?_
 refine r_region ?_
 refine l_m rfl ?_
 refine l_x rfl (x_neq rfl rfl) ?_
 refine l_m rfl ?_
 refine l_splitd (d := 49) rfl (fun hg49 => ?_) (fun hg49 => ?_)
 ·exact absurd rfl hg49
 refine l_m rfl ?_
 refine l_m rfl ?_
 refine l_x rfl (x_nebs (a := writeW (markR (splitW line))) (b := line) rfl rfl) ?_
 refine l_x rfl (x_pick_f rfl rfl) ?_
 refine l_nil ?_
 refine r_if rfl (fun hc53 => ?_) (fun hc53 => ?_)
 ·skip
  refine r_seq ?_
  refine r_region ?_
  refine l_x rfl (x_buildS (out := [_, _, _, _, _, _, _, _, _]) (ss := [1, 1, 1, 6]) Tryz.zeroValue39 rfl Tryz.runUnderlying39 ⟨Tryz.sizeOf3, Tryz.sizeOf3, Tryz.sizeOf3, Tryz.sizeOf28, trivial⟩ fill_nil) ?_
  refine l_stores (vs := [_, _, _, _, _, _, _, _, _]) S158 0 rfl rfl rfl rfl (ones_cons rfl (ones_cons rfl (ones_cons rfl (ones_cons rfl (ones_cons rfl (ones_cons rfl (ones_cons rfl (ones_cons rfl (ones_cons rfl ones_nil))))))))) Tryz.sizeOf39 (by first | exact Nat.le_refl _ | simp) (splice_all rfl) ?_
  intro w159 S160 hk161
  refine l_a rfl ?_
  refine l_nil ?_
  refine r_ret (rs := [.cell 2 39, .tmp 3]) [_, _] Tryz.func67 rfl ⟨⟨_, rfl, (ld_blks (S160.blk 0 rfl) Tryz.isAgg39 Tryz.sizeOf39 rfl rfl)⟩, rfl, trivial⟩ ?_
  have hn9 := rm_no (line := line) (fun h => by simp [h.2.2] at hc53)
  exact ⟨by rw [hn9]; rfl, S160.le⟩
 refine r_skip ?_
 refine r_seq ?_
 refine r_region ?_
 refine l_x rfl (x_load rfl (ld_blks (S158.blk 2 rfl) Tryz.isAgg39 Tryz.sizeOf39 rfl rfl)) ?_
 refine l_stores (vs := [_, _, _, _, _, _, _, _, _]) S158 0 rfl rfl rfl rfl (ones_cons rfl (ones_cons rfl (ones_cons rfl (ones_cons rfl (ones_cons rfl (ones_cons rfl (ones_cons rfl (ones_cons rfl (ones_cons rfl ones_nil))))))))) Tryz.sizeOf39 (by first | exact Nat.le_refl _ | simp) (splice_all rfl) ?_
 intro w162 S163 hk164
 refine l_a rfl ?_
 refine l_nil ?_
 refine r_ret (rs := [.cell 2 39, .tmp 3]) [_, _] Tryz.func67 rfl ⟨⟨_, rfl, (ld_blks (S163.blk 0 rfl) Tryz.isAgg39 Tryz.sizeOf39 rfl rfl)⟩, rfl, trivial⟩ ?_
 have hy9 := rm_yes (line := line) ⟨by omega, hmb9, by simpa using hc53⟩
 exact ⟨by rw [hy9]; rfl, S163.le⟩

end Go.Proofs

namespace Go.Proofs
open Go Go.Vk Go.Vk.Flow

open Go.Vk.Mark
open Go.Vk.Deed (i64 rng rng_iff owners sumI sumI_cons sumI_snoc)

set_option maxHeartbeats 4000000 in
theorem c_rReadSight (line : List UInt8) (hln : line.length ≤ 900) (w : World) :
  Cl Tryz.prog 71 #[.string (bs line)] w fun v w' => v = .tuple #[Value.agg (encSg ((rsR line).getD zeroSg)).toArray, .int .i64 (if (rsR line).isSome = true then 0 else 4)] ∧ Le w w' := by
 refine fn_of_run (args := [_]) 42 Tryz.func71 rfl rfl rfl fun cs => ?_
 have S := Own.start (X := nob) w
 refine r_seq ?_
 refine r_region ?_
 refine l_alloc S rfl Tryz.zeroValue30 rfl ?_
 intro b4 w1 S2 hl3
 refine l_a rfl ?_
 refine l_nil ?_
 refine r_seq ?_
 refine r_region ?_
 refine l_m rfl ?_
 refine l_call [] [] [_] rfl rfl Tryz.call139 rfl (c_rwords line hln _) ?_
 rintro v105 w5 ⟨hN105, hl105⟩
 have S6 := S2.add hl105 hN105
 have hsl9 := split_cnt (l := line)
 refine l_a rfl ?_
 refine l_nil ?_
 refine r_seq ?_
 refine r_seq ?_
 refine r_region ?_
 refine l_m rfl ?_
 refine l_x rfl (x_len (vec_rd (S6.at 1 rfl)) rfl Tryz.runUnderlying168) ?_
 refine l_x rfl (x_neq rfl rfl) ?_
 refine l_nil ?_
 refine r_ifd rfl (fun hc13 => ?_) (fun hc13 => ?_)
 ·skip
  refine r_seq ?_
  refine r_region ?_
  refine l_x rfl (x_buildS (out := [_, _, _, _, _, _]) (ss := [6]) Tryz.zeroValue30 rfl Tryz.runUnderlying30 ⟨Tryz.sizeOf28, trivial⟩ fill_nil) ?_
  refine l_stores (vs := [_, _, _, _, _, _]) S6 0 rfl rfl rfl rfl (ones_cons rfl (ones_cons rfl (ones_cons rfl (ones_cons rfl (ones_cons rfl (ones_cons rfl ones_nil)))))) Tryz.sizeOf30 (by first | exact Nat.le_refl _ | simp) (splice_all rfl) ?_
  intro w7 S8 hk9
  refine l_a rfl ?_
  refine l_nil ?_
  refine r_ret (rs := [.cell 2 30, .tmp 3]) [_, _] Tryz.func71 rfl ⟨⟨_, rfl, (ld_blks (S8.blk 0 rfl) Tryz.isAgg30 Tryz.sizeOf30 rfl rfl)⟩, rfl, trivial⟩ ?_
  have hn9 := rs_no (line := line) (fun h => hc13 (by have := h.1; omega))
  exact ⟨by rw [hn9]; rfl, S8.le⟩
 have hl6 : (splitW line).length = 6 := by omega
 refine r_skip ?_
 refine r_seq ?_
 refine r_region ?_
 refine l_alloc S6 rfl Tryz.zeroValue30 rfl ?_
 intro b13 w10 S11 hl12
 refine l_nil ?_
 refine r_seq ?_
 refine r_seq ?_
 refine r_region ?_
 refine l_a rfl ?_
 refine l_nil ?_
 refine r_block ?_
 refine r_loop (G := Nat) (fun i => 6 - i) (fun i => [(0, .string (bs line)), (2, .pointer (some ⟨b4, 0, none⟩)), (4, v105), (5, .pointer (some ⟨b13, 0, none⟩)), (6, Value.int .i64 i)]) (fun i w' => (i ≤ 6) ∧ Own nob w w' [blk b4 (encSg zeroSg) 30, vec EST v105 (splitW line), blk b13 (encSg (seenQ (splitW line) 0 i)) 30]) 0 ⟨rfl, rfl, rfl, rfl, rfl, trivial⟩ ⟨Nat.zero_le _, (S11.pick (L' := [_, _, _]) [0, 1, 2] (by decide) rfl)⟩ ?_
 rintro i ρ w1 ⟨hi, S1⟩ IH
 refine r_seq ?_
 refine r_seq ?_
 refine r_region ?_
 refine l_m rfl ?_
 refine l_x rfl (x_lss rfl rfl) ?_
 refine l_nil ?_
 refine r_ifd rfl (fun hc16 => ?_) (fun hc16 => ?_)
 ·skip
  obtain ⟨x, hx⟩ : ∃ x, (splitW line)[i]? = some x := ⟨_, List.getElem?_eq_getElem (by omega)⟩
  have hx9 : (splitW line)[0 + i]? = some x := by rw [Nat.zero_add]; exact hx
  refine r_skip ?_
  refine r_seq ?_
  refine r_block ?_
  refine r_region ?_
  refine l_m rfl ?_
  refine l_m rfl ?_
  refine l_m rfl ?_
  refine l_m rfl ?_
  refine l_index EST rfl (vec_rd (S1.at 1 rfl)) rfl rfl Tryz.runUnderlying168 Tryz.sizeOf9 (Int.natCast_nonneg _) (by rw [Int.toNat_natCast]; exact hx) ?_
  intro b14 o15 hat16 row17
  refine l_x rfl (x_load rfl (ld_cell Tryz.isAgg9 (row17 0 _ rfl))) ?_
  refine l_call [] [] [_, _] rfl rfl Tryz.call141 rfl (c_rsign i x _) ?_
  rintro _ w18 ⟨rfl, hl20⟩
  have S19 := S1.step hl20
  refine l_x rfl (x_fieldAddr rfl Tryz.runUnderlying30 rfl Tryz.sizeOf28 (by decide)) ?_
  refine l_x rfl (x_indexAddr_array rfl rfl Tryz.runUnderlying28 Tryz.sizeOf5 (by omega)) ?_
  refine l_storeq S19 2 rfl rfl rfl rfl rfl Tryz.sizeOf5 (sgb_lt (by omega)) (sgb_set (by omega)) ?_
  intro w21 S22 hk23
  refine l_nil ?_
  refine r_inBlock ?_
  refine r_region ?_
  refine l_m rfl ?_
  refine l_x rfl (x_add rfl rfl (by omega)) ?_
  refine l_a rfl ?_
  refine l_nil ?_
  exact IH (i + 1) _ _ (by omega) ⟨rfl, rfl, rfl, rfl, rfl, trivial⟩ ⟨by omega, (by have h := S22.take 3; rw [← seenQ_step (by omega) hx9]; exact h)⟩
 obtain rfl : i = 6 := by omega
 rw [seenQ_all] at S1
 refine r_exit rfl ?_
 refine r_seq ?_
 refine r_region ?_
 refine l_x rfl (x_load rfl (ld_blks (S1.blk 2 rfl) Tryz.isAgg30 Tryz.sizeOf30 rfl rfl)) ?_
 refine l_call [] [] [_] rfl rfl Tryz.call69 rfl (c_rWriteSight (seenR (splitW line) 0) (seenR_ok 0) _) ?_
 rintro _ w24 (⟨hmb9, rfl, hl3024⟩ | ⟨hmb9, rfl, hl3024⟩)
 ·skip
  have S25 := S1.step hl3024
  refine l_m rfl ?_
  refine l_x rfl (x_extract rfl rfl) ?_
  refine l_x rfl (x_extract rfl rfl) ?_
  refine l_a rfl ?_
  refine l_a rfl ?_
  refine l_nil ?_
  refine r_seq ?_
  refine r_seq ?_
  refine r_region ?_
  refine l_m rfl ?_
  refine l_x rfl (x_neq rfl rfl) ?_
  refine l_m rfl ?_
  refine l_splitd (d := 35) rfl (fun hg35 => ?_) (fun hg35 => ?_)
  ·skip
   refine l_pass rfl ?_
   refine l_pass rfl ?_
   refine l_pass rfl ?_
   refine l_x rfl (x_pick_t rfl rfl) ?_
   refine l_nil ?_
   refine r_true rfl ?_
   refine r_seq ?_
   refine r_region ?_
   refine l_x rfl (x_buildS (out := [_, _, _, _, _, _]) (ss := [6]) Tryz.zeroValue30 rfl Tryz.runUnderlying30 ⟨Tryz.sizeOf28, trivial⟩ fill_nil) ?_
   refine l_stores (vs := [_, _, _, _, _, _]) S25 0 rfl rfl rfl rfl (ones_cons rfl (ones_cons rfl (ones_cons rfl (ones_cons rfl (ones_cons rfl (ones_cons rfl ones_nil)))))) Tryz.sizeOf30 (by first | exact Nat.le_refl _ | simp) (splice_all rfl) ?_
   intro w26 S27 hk28
   refine l_a rfl ?_
   refine l_nil ?_
   refine r_ret (rs := [.cell 2 30, .tmp 3]) [_, _] Tryz.func71 rfl ⟨⟨_, rfl, (ld_blks (S27.blk 0 rfl) Tryz.isAgg30 Tryz.sizeOf30 rfl rfl)⟩, rfl, trivial⟩ ?_
   have hn9 := rs_no (line := line) (fun h => by rw [h.2.1] at hmb9; cases hmb9)
   exact ⟨by rw [hn9]; rfl, S27.le⟩
  exact absurd (by decide) hg35
 have S29 := S1.step hl3024
 refine l_m rfl ?_
 refine l_x rfl (x_extract rfl rfl) ?_
 refine l_x rfl (x_extract rfl rfl) ?_
 refine l_a rfl ?_
 refine l_a rfl ?_
 refine l_nil ?_
 refine r_seq ?_
 refine r_seq ?_
 refine r_region ?_
 refine l_m rfl ?_
 refine l_x rfl (x_neq rfl rfl) ?_
 refine l_m rfl ?_
 refine l_splitd (d := 35) rfl (fun hg35 => ?_) (fun hg35 => ?_)
 ·exact absurd rfl hg35
 refine l_m rfl ?_
 refine l_m rfl ?_
 refine l_x rfl (x_nebs (a := toldW (seenR (splitW line) 0)) (b := line) rfl rfl) ?_
 refine l_x rfl (x_pick_f rfl rfl) ?_
 refine l_nil ?_
 refine r_if rfl (fun hc39 => ?_) (fun hc39 => ?_)
 ·skip
  refine r_seq ?_
  refine r_region ?_
  refine l_x rfl (x_buildS (out := [_, _, _, _, _, _]) (ss := [6]) Tryz.zeroValue30 rfl Tryz.runUnderlying30 ⟨Tryz.sizeOf28, trivial⟩ fill_nil) ?_
  refine l_stores (vs := [_, _, _, _, _, _]) S29 0 rfl rfl rfl rfl (ones_cons rfl (ones_cons rfl (ones_cons rfl (ones_cons rfl (ones_cons rfl (ones_cons rfl ones_nil)))))) Tryz.sizeOf30 (by first | exact Nat.le_refl _ | simp) (splice_all rfl) ?_
  intro w30 S31 hk32
  refine l_a rfl ?_
  refine l_nil ?_
  refine r_ret (rs := [.cell 2 30, .tmp 3]) [_, _] Tryz.func71 rfl ⟨⟨_, rfl, (ld_blks (S31.blk 0 rfl) Tryz.isAgg30 Tryz.sizeOf30 rfl rfl)⟩, rfl, trivial⟩ ?_
  have hn9 := rs_no (line := line) (fun h => by simp [h.2.2] at hc39)
  exact ⟨by rw [hn9]; rfl, S31.le⟩
 refine r_skip ?_
 refine r_seq ?_
 refine r_region ?_
 refine l_x rfl (x_load rfl (ld_blks (S29.blk 2 rfl) Tryz.isAgg30 Tryz.sizeOf30 rfl rfl)) ?_
 refine l_stores (vs := [_, _, _, _, _, _]) S29 0 rfl rfl rfl rfl (ones_cons rfl (ones_cons rfl (ones_cons rfl (ones_cons rfl (ones_cons rfl (ones_cons rfl ones_nil)))))) Tryz.sizeOf30 (by first | exact Nat.le_refl _ | simp) (splice_all rfl) ?_
 intro w33 S34 hk35
 refine l_a rfl ?_
 refine l_nil ?_
 refine r_ret (rs := [.cell 2 30, .tmp 3]) [_, _] Tryz.func71 rfl ⟨⟨_, rfl, (ld_blks (S34.blk 0 rfl) Tryz.isAgg30 Tryz.sizeOf30 rfl rfl)⟩, rfl, trivial⟩ ?_
 have hy9 := rs_yes (line := line) ⟨by omega, hmb9, by simpa using hc39⟩
 exact ⟨by rw [hy9]; rfl, S34.le⟩

end Go.Proofs
