/- Texts joined for claims: G12, G15, G14, M30, M28, G7, G4. -/
import Derived.Test.YtaigapdghhoncaaGreatDoorK483b237776
import Derived.Test.YtaigapdghhoncaaGreatDoorK0b3004e593
import Derived.Test.YtaigapdghhoncaaGreatDoorKd7ee50b94f
set_option linter.unusedVariables false
set_option linter.unusedSimpArgs false
set_option linter.unusedSectionVars false
namespace Go.Proofs
open Go Go.Vk Go.Vk.Flow

open Go.Vk.Mark
open Go.Vk.Deed (i64 rng rng_iff owners sumI sumI_cons sumI_snoc)

theorem begin_bd {b : Sm} {day : Int} {r : Bool} {found : List Sg} {cs : List Clm} (h : beginE b day r found cs = 0) : ∀ c ∈ cs, 0 ≤ c.number ∧ c.number ≤ 60 := fun c hc => by
 have := (claim_ok (begin_parts h).2.2).2.1 c hc
 unfold claimB at this
 rw [Bool.and_eq_true, rng_iff] at this
 exact this.2

set_option maxHeartbeats 8000000 in
theorem c_rAssign (b : Sm) (vm vf : Value) (day : Int) (found : List Sg) (vs : Value) (cq : List Clm) (vq : Value) (hm : found.length ≤ 9223372036854775807) (hmc : cq.length ≤ 9223372036854775807) (w : World) (hB : SmR 39 41 w vm vf b) (hF : Rd ESG w vs found) (hC : Rd ECL w vq cq) :
  Cl Tryz.prog 28 #[.agg #[vm, vf], Value.int .i64 day, vs, vq] w fun v w' => (∃ e, e ≠ 0 ∧ v = .tuple #[.slice none 0 0, .bool false, .int .i64 e] ∧ e = beginE b day true found cq ∧ Le w w') ∨ (beginE b day true found cq = 0 ∧ metB (fs b day found) cq = false ∧ v = .tuple #[.slice none 0 0, .bool false, .int .i64 0] ∧ Le w w') ∨ (beginE b day true found cq = 0 ∧ metB (fs b day found) cq = true ∧ ∃ s, v = .tuple #[s, .bool true, .int .i64 0] ∧ New w w' (vec EI s (assignS (fs b day found) cq)) ∧ Le w w') := by
 refine fn_of_run (args := [_, _, _, _]) 101 Tryz.func28 rfl rfl rfl fun cs => ?_
 have S := Own.start (X := nob) w
 refine r_seq ?_
 refine r_region ?_
 refine l_box S rfl rfl ?_
 intro b4 w1 S2 hl3
 refine l_a rfl ?_
 refine l_a rfl ?_
 refine l_a rfl ?_
 refine l_nil ?_
 refine r_seq ?_
 refine r_region ?_
 refine l_x rfl (x_load rfl (ld_blks (S2.blk 0 rfl) Tryz.isAgg25 Tryz.sizeOf25 rfl rfl)) ?_
 refine l_m rfl ?_
 refine l_m rfl ?_
 refine l_m rfl ?_
 refine l_call [] [] [_, _, _, _, _] rfl rfl Tryz.call94 rfl (c_rbegin b vm vf day [] _ (by decide) found vs hm cq vq hmc _ (hB.le S2.le) rd_nil (hF.le S2.le) (hC.le S2.le)) ?_
 rintro _ w5 ⟨rfl, hl7⟩
 have S6 := S2.step hl7
 refine l_a rfl ?_
 refine l_nil ?_
 refine r_seq ?_
 refine r_seq ?_
 refine r_region ?_
 refine l_m rfl ?_
 refine l_x rfl (x_neq rfl rfl) ?_
 refine l_nil ?_
 refine r_ifd rfl (fun hc25 => ?_) (fun hc25 => ?_)
 ·skip
  refine r_seq ?_
  refine r_region ?_
  refine l_m rfl ?_
  refine l_a rfl ?_
  refine l_a rfl ?_
  refine l_a rfl ?_
  refine l_nil ?_
  refine r_ret (rs := [.tmp 8, .tmp 9, .tmp 10]) [_, _, _] Tryz.func28 rfl ⟨rfl, rfl, rfl, trivial⟩ ?_
  exact .inl ⟨_, hc25, rfl, rfl, S6.le⟩
 have hb : beginE b day true found cq = 0 := Decidable.not_not.1 hc25
 have hf60 := bench_len hb
 have hR0 := fun h => RasI.start hb h
 have hcl := (claim_ok (begin_parts hb).2.2).1
 have hcbd := begin_bd hb
 refine r_skip ?_
 refine r_seq ?_
 refine r_seq ?_
 refine r_region ?_
 refine l_x rfl (x_load rfl (ld_blks (S6.blk 0 rfl) Tryz.isAgg25 Tryz.sizeOf25 rfl rfl)) ?_
 refine l_m rfl ?_
 refine l_m rfl ?_
 refine l_m rfl ?_
 refine l_call [] [] [_, _, _, _] rfl rfl Tryz.call95 rfl (c_rmet b vm vf day found vs cq vq hf60 hcl hcbd _ (hB.le S6.le) (hF.le S6.le) (hC.le S6.le)) ?_
 rintro _ w8 ⟨rfl, hl10⟩
 have S9 := S6.step hl10
 refine l_x rfl (x_not rfl) ?_
 refine l_nil ?_
 refine r_if rfl (fun hc32 => ?_) (fun hc32 => ?_)
 ·skip
  refine r_seq ?_
  refine r_region ?_
  refine l_a rfl ?_
  refine l_a rfl ?_
  refine l_a rfl ?_
  refine l_nil ?_
  refine r_ret (rs := [.tmp 8, .tmp 9, .tmp 10]) [_, _, _] Tryz.func28 rfl ⟨rfl, rfl, rfl, trivial⟩ ?_
  exact .inr (.inl ⟨hb, by simpa using hc32, rfl, S9.le⟩)
 have hm0 : metB (fs b day found) cq = true := by simpa using hc32
 refine r_skip ?_
 refine r_seq ?_
 refine r_region ?_
 refine l_a rfl ?_
 have S11 := S9.nilvec (E := EI)
 refine l_nil ?_
 refine r_seq ?_
 refine r_region ?_
 refine l_m rfl ?_
 refine l_a rfl ?_
 refine l_nil ?_
 refine r_seq ?_
 refine r_seq ?_
 refine r_region ?_
 refine l_a rfl ?_
 refine l_nil ?_
 refine r_block ?_
 refine r_loop (G := Nat × Value × List Int × Value × List Clm × Bool) (fun ⟨i, vo, ol, vl, lf, fl⟩ => found.length - i) (fun ⟨i, vo, ol, vl, lf, fl⟩ => [(1, Value.int .i64 day), (2, vs), (4, .pointer (some ⟨b4, 0, none⟩)), (12, vo), (13, vl), (14, Value.int .i64 i)]) (fun ⟨i, vo, ol, vl, lf, fl⟩ w' => (i ≤ found.length) ∧ (RasI b day found cq i ol lf) ∧ (fl = true → vq = vl ∧ cq = lf) ∧ Own nob w w' [blk b4 [vm, vf] 25, vec EI vo ol, cond fl (pack []) (vec ECL vl lf)]) (0, .slice none 0 0, [], vq, cq, true) ⟨rfl, rfl, rfl, rfl, rfl, rfl, trivial⟩ ⟨Nat.zero_le _, RasI.start hb hm0, fun _ => ⟨rfl, rfl⟩, (Own.pack (A := [_, _]) (L := []) (S11.pick (L' := [_, _]) [0, 1] (by decide) rfl))⟩ ?_
 rintro ⟨i, vo, ol, vl, lf, fl⟩ ρ w1 ⟨hi, hR, hfl, S1⟩ IH
 refine r_seq ?_
 refine r_seq ?_
 refine r_region ?_
 refine l_m rfl ?_
 refine l_m rfl ?_
 refine l_x rfl (x_len (hF.le S1.le) rfl Tryz.runUnderlying50) ?_
 refine l_x rfl (x_lss rfl rfl) ?_
 refine l_nil ?_
 refine r_ifd rfl (fun hc37 => ?_) (fun hc37 => ?_)
 ·skip
  obtain ⟨t, ha⟩ : ∃ t, found[i]? = some t := ⟨_, List.getElem?_eq_getElem (by omega)⟩
  refine r_skip ?_
  refine r_seq ?_
  refine r_block ?_
  refine r_seq ?_
  rcases fl with _ | _
  ·skip
   refine r_region ?_
   refine l_a rfl ?_
   refine l_nil ?_
   refine r_seq ?_
   refine r_region ?_
   refine l_m rfl ?_
   refine l_m rfl ?_
   refine l_x rfl (x_add rfl rfl (by omega)) ?_
   refine l_tailR (hF.le S1.le) rfl rfl rfl Tryz.runUnderlying50 Tryz.sizeOf30 (by omega) ?_
   intro v12 ht13
   refine l_a rfl ?_
   refine l_nil ?_
   refine r_seq ?_
   refine r_seq ?_
   refine r_region ?_
   refine l_x rfl (x_load rfl (ld_blks (S1.blk 0 rfl) Tryz.isAgg25 Tryz.sizeOf25 rfl rfl)) ?_
   refine l_m rfl ?_
   refine l_m rfl ?_
   refine l_m rfl ?_
   refine l_call [] [] [_, _, _, _] rfl rfl Tryz.call95 rfl (c_rmet b vm vf day (found.drop (i + 1)) _ lf _ (by rw [List.length_drop]; omega) hR.len hR.bd _ (hB.le S1.le) (tailR_rd ht13 (hF.le S1.le)) (vec_rd (S1.at 2 rfl))) ?_
   rintro _ w14 ⟨rfl, hl16⟩
   have S15 := S1.step hl16
   refine l_x rfl (x_not rfl) ?_
   refine l_nil ?_
   refine r_if rfl (fun hc49 => ?_) (fun hc49 => ?_)
   ·skip
    have hm9 : metB (fs b day (found.drop (i + 1))) lf = false := by simpa using hc49
    refine r_seq ?_
    refine r_seq ?_
    refine r_region ?_
    refine l_a rfl ?_
    refine l_nil ?_
    refine r_block ?_
    refine r_loop (G := Nat × Option Int) (fun ⟨n, fo⟩ => 40 - n) (fun ⟨n, fo⟩ => [(1, Value.int .i64 day), (2, vs), (4, .pointer (some ⟨b4, 0, none⟩)), (12, vo), (13, vl), (14, Value.int .i64 i), (15, Value.int .i64 (fo.getD 0)), (16, v12), (17, Value.int .i64 ((n : Int) + 1))]) (fun ⟨n, fo⟩ w' => (n ≤ 40) ∧ (fo = none → ∀ q : Nat, q < n → mayGive (fitsO b day t) (fs b day (found.drop (i + 1))) lf ((q : Int) + 1) = false) ∧ (∀ z, fo = some z → owners.find? (mayGive (fitsO b day t) (fs b day (found.drop (i + 1))) lf) = some z) ∧ Own nob w w' [blk b4 [vm, vf] 25, vec EI vo ol, vec ECL vl lf]) (0, none) ⟨rfl, rfl, rfl, rfl, rfl, rfl, rfl, rfl, rfl, trivial⟩ ⟨Nat.zero_le _, (fun _ q h => absurd h (Nat.not_lt_zero q)), (fun z h => by cases h), (S15.take 3)⟩ ?_
    rintro ⟨n, fo⟩ ρ w1b ⟨hn, hno, hso, S1b⟩ IHb
    refine r_seq ?_
    refine r_seq ?_
    refine r_region ?_
    refine l_m rfl ?_
    refine l_x rfl (x_leq rfl rfl) ?_
    refine l_m rfl ?_
    refine l_splitd (d := 52) rfl (fun hg52 => ?_) (fun hg52 => ?_)
    ·skip
     refine l_m rfl ?_
     refine l_x rfl (x_eql rfl rfl) ?_
     refine l_x rfl (x_pick_t rfl rfl) ?_
     refine l_nil ?_
     refine r_ifd rfl (fun hc55 => ?_) (fun hc55 => ?_)
     ·skip
      obtain rfl : fo = none := by
       cases fo with
       | none => rfl
       | some z => have h9 := find_one (hso z rfl); simp at hc55; omega
      refine r_skip ?_
      refine r_seq ?_
      refine r_block ?_
      refine r_seq ?_
      refine r_region ?_
      refine l_m rfl ?_
      refine l_m rfl ?_
      refine l_call [] [] [_, _] rfl rfl Tryz.call96 rfl (c_rclaimed lf _ ((n : Int) + 1) (by have := hR.len; omega) _ (vec_rd (S1b.at 2 rfl))) ?_
      rintro _ w17 ⟨rfl, hl19⟩
      have S18 := S1b.step hl19
      refine l_a rfl ?_
      refine l_nil ?_
      refine r_seq ?_
      rcases ix_casesG (fun a : Clm => decide (a.owner = (n : Int) + 1)) lf with ⟨hn9, -⟩ | ⟨k, c, hk, hc, -⟩
      ·skip
       refine r_slot 18 (.int .i64 (-1)) (congrArg (Value.int .i64) hn9) ?_
       refine r_drawE 29 nob Tryz.mixed (by kernel_rfl) ?_
       intro w20 hl21
       have S22 := S18.step hl21
       refine e_exact 0 _ (by kernel_rfl) rfl rfl (by kernel_rfl) rfl (ex_x rfl (fun w1 h1 => x_mv rfl)) ?_
       refine e_exact 1 _ (by kernel_rfl) rfl rfl (by kernel_rfl) rfl (ex_x rfl (fun w1 h1 => x_geq rfl rfl)) ?_
       refine e_exact 2 _ (by kernel_rfl) rfl rfl (by kernel_rfl) rfl (ex_x rfl (fun w1 h1 => x_mv rfl)) ?_
       refine e_splitd (d := 63) rfl (fun hg63 => ?_) (fun hg63 => ?_)
       ·omega
       refine e_exact 3 _ (by kernel_rfl) rfl rfl (by kernel_rfl) rfl (ex_pass rfl) ?_
       refine e_exact 4 _ (by kernel_rfl) rfl rfl (by kernel_rfl) rfl (ex_pass rfl) ?_
       refine e_exact 5 _ (by kernel_rfl) rfl rfl (by kernel_rfl) rfl (ex_pass rfl) ?_
       refine e_exact 6 _ (by kernel_rfl) rfl rfl (by kernel_rfl) rfl (ex_pass rfl) ?_
       refine e_exact 7 _ (by kernel_rfl) rfl rfl (by kernel_rfl) rfl (ex_pass rfl) ?_
       refine e_exact 8 _ (by kernel_rfl) rfl rfl (by kernel_rfl) rfl (ex_pass rfl) ?_
       refine e_exact 9 _ (by kernel_rfl) rfl rfl (by kernel_rfl) rfl (ex_x rfl (fun w1 h1 => x_pick_f rfl rfl)) ?_
       refine e_exact 10 _ (by kernel_rfl) rfl rfl (by kernel_rfl) rfl (ex_x rfl (fun w1 h1 => x_mv rfl)) ?_
       refine e_exact 11 _ (by kernel_rfl) rfl rfl (by kernel_rfl) rfl (ex_pass rfl) ?_
       refine e_exact 12 _ (by kernel_rfl) rfl rfl (by kernel_rfl) rfl (ex_pass rfl) ?_
       refine e_exact 13 _ (by kernel_rfl) rfl rfl (by kernel_rfl) rfl (ex_pass rfl) ?_
       refine e_exact 14 _ (by kernel_rfl) rfl rfl (by kernel_rfl) rfl (ex_pass rfl) ?_
       refine e_exact 15 _ (by kernel_rfl) rfl rfl (by kernel_rfl) rfl (ex_pass rfl) ?_
       refine e_exact 16 _ (by kernel_rfl) rfl rfl (by kernel_rfl) rfl (ex_pass rfl) ?_
       refine e_exact 17 _ (by kernel_rfl) rfl rfl (by kernel_rfl) rfl (ex_pass rfl) ?_
       refine e_exact 18 _ (by kernel_rfl) rfl rfl (by kernel_rfl) rfl (ex_pass rfl) ?_
       refine e_exact 19 _ (by kernel_rfl) rfl rfl (by kernel_rfl) rfl (ex_x rfl (fun w1 h1 => x_pick_f rfl rfl)) ?_
       refine e_exact 20 _ (by kernel_rfl) rfl rfl (by kernel_rfl) rfl (ex_x rfl (fun w1 h1 => x_mv rfl)) ?_
       refine e_exact 21 _ (by kernel_rfl) rfl rfl (by kernel_rfl) rfl (ex_pass rfl) ?_
       refine e_exact 22 _ (by kernel_rfl) rfl rfl (by kernel_rfl) rfl (ex_pass rfl) ?_
       refine e_exact 23 _ (by kernel_rfl) rfl rfl (by kernel_rfl) rfl (ex_pass rfl) ?_
       refine e_exact 24 _ (by kernel_rfl) rfl rfl (by kernel_rfl) rfl (ex_pass rfl) ?_
       refine e_exact 25 _ (by kernel_rfl) rfl rfl (by kernel_rfl) rfl (ex_pass rfl) ?_
       refine e_exact 26 _ (by kernel_rfl) rfl rfl (by kernel_rfl) rfl (ex_pass rfl) ?_
       refine e_exact 27 _ (by kernel_rfl) rfl rfl (by kernel_rfl) rfl (ex_pass rfl) ?_
       refine e_exact 28 _ (by kernel_rfl) rfl rfl (by kernel_rfl) rfl (ex_x rfl (fun w1 h1 => x_pick_f rfl rfl)) ?_
       refine e_done (by kernel_rfl) ?_
       refine l_nil ?_
       refine r_false rfl ?_
       refine r_skip ?_
       refine r_inBlock ?_
       refine r_region ?_
       refine l_m rfl ?_
       refine l_x rfl (x_add rfl rfl (by omega)) ?_
       refine l_a rfl ?_
       refine l_nil ?_
       exact IHb (n + 1, none) _ _ (by dsimp only; omega) ⟨rfl, rfl, rfl, rfl, rfl, rfl, rfl, rfl, rfl, trivial⟩ ⟨by omega, (fun _ => no_step9 (P := fun q : Nat => mayGive (fitsO b day t) (fs b day (found.drop (i + 1))) lf ((q : Int) + 1)) (hno rfl) (may_no hn9)), (fun z hz => by cases hz), (S22.take 3)⟩
      refine r_slot 18 (.int .i64 (k : Int)) (congrArg (Value.int .i64) hk) ?_
      have hkl := (List.getElem?_eq_some_iff.1 hc).1
      refine r_drawE 29 nob Tryz.mixed (by kernel_rfl) ?_
      intro w23 hl24
      have S25 := S18.step hl24
      refine e_exact 0 _ (by kernel_rfl) rfl rfl (by kernel_rfl) rfl (ex_x rfl (fun w1 h1 => x_mv rfl)) ?_
      refine e_exact 1 _ (by kernel_rfl) rfl rfl (by kernel_rfl) rfl (ex_x rfl (fun w1 h1 => x_geq rfl rfl)) ?_
      refine e_exact 2 _ (by kernel_rfl) rfl rfl (by kernel_rfl) rfl (ex_x rfl (fun w1 h1 => x_mv rfl)) ?_
      refine e_splitd (d := 63) rfl (fun hg63 => ?_) (fun hg63 => ?_)
      ·skip
       refine e_exact 3 _ (by kernel_rfl) rfl rfl (by kernel_rfl) rfl (ex_x rfl (fun w1 h1 => x_mv rfl)) ?_
       refine e_exact 4 _ (by kernel_rfl) rfl rfl (by kernel_rfl) rfl (ex_x rfl (fun w1 h1 => x_mv rfl)) ?_
       refine e_index ECL 5 (by kernel_rfl) rfl rfl (by kernel_rfl) rfl rfl (vec_rd (S25.at 2 rfl)) rfl rfl Tryz.runUnderlying51 Tryz.sizeOf83 (by omega) hc ?_
       intro b26 o27 hat28
       refine e_exact 6 _ (by kernel_rfl) rfl rfl (by kernel_rfl) rfl (ex_x rfl (fun w1 h1 => x_fieldAddr rfl Tryz.runUnderlying83 rfl Tryz.sizeOf3 (by decide))) ?_
       refine e_exact 7 _ (by kernel_rfl) rfl rfl (by kernel_rfl) rfl (ex_x rfl (fun w1 h1 => x_load rfl (ld_cell Tryz.isAgg3 ((rd_row (vec_rd ((S25.step h1).at 2 rfl)) hat28 hc) 1 _ rfl)))) ?_
       refine e_exact 8 _ (by kernel_rfl) rfl rfl (by kernel_rfl) rfl (ex_x rfl (fun w1 h1 => x_gtr rfl rfl)) ?_
       refine e_exact 9 _ (by kernel_rfl) rfl rfl (by kernel_rfl) rfl (ex_x rfl (fun w1 h1 => x_pick_t rfl rfl)) ?_
       refine e_exact 10 _ (by kernel_rfl) rfl rfl (by kernel_rfl) rfl (ex_x rfl (fun w1 h1 => x_mv rfl)) ?_
       refine e_splitd (d := 71) rfl (fun hg71 => ?_) (fun hg71 => ?_)
       ·skip
        refine e_exact 11 _ (by kernel_rfl) rfl rfl (by kernel_rfl) rfl (ex_x rfl (fun w1 h1 => x_load rfl (ld_blks ((S25.step h1).blk 0 rfl) Tryz.isAgg25 Tryz.sizeOf25 rfl rfl))) ?_
        refine e_exact 12 _ (by kernel_rfl) rfl rfl (by kernel_rfl) rfl (ex_x rfl (fun w1 h1 => x_mv rfl)) ?_
        refine e_exact 13 _ (by kernel_rfl) rfl rfl (by kernel_rfl) rfl (ex_x rfl (fun w1 h1 => x_mv rfl)) ?_
        refine e_exact 14 _ (by kernel_rfl) rfl rfl (by kernel_rfl) rfl (ex_x rfl (fun w1 h1 => x_mv rfl)) ?_
        refine e_index ESG 15 (by kernel_rfl) rfl rfl (by kernel_rfl) rfl rfl (hF.le S25.le) rfl rfl Tryz.runUnderlying50 Tryz.sizeOf30 (by omega) ha ?_
        intro b29 o30 hat31
        refine e_exact 16 _ (by kernel_rfl) rfl rfl (by kernel_rfl) rfl (ex_x rfl (fun w1 h1 => x_load rfl (ld_row Tryz.isAgg30 Tryz.sizeOf30 rfl (rd_row (hF.le (S25.step h1).le) hat31 ha)))) ?_
        refine e_exact 17 _ (by kernel_rfl) rfl rfl (by kernel_rfl) rfl (ex_x rfl (fun w1 h1 => x_mv rfl)) ?_
        refine e_next [18] (by kernel_rfl) (by kernel_rfl) ⟨⟨_, _, rfl, rfl, ?_⟩, trivial⟩
        refine s_callf [] [] [_, _, _, _] rfl rfl Tryz.call97 rfl ((c_rfits b vm vf day ((n : Int) + 1) t _ (hB.le S25.le)).mono ?_)
        rintro _ w32 ⟨rfl, hl34⟩
        have S33 := S25.step hl34
        refine ⟨.of_le hl34, ?_⟩
        refine e_exact 19 _ (by kernel_rfl) rfl rfl (by kernel_rfl) rfl (ex_x rfl (fun w1 h1 => x_pick_t rfl rfl)) ?_
        refine e_exact 20 _ (by kernel_rfl) rfl rfl (by kernel_rfl) rfl (ex_x rfl (fun w1 h1 => x_mv rfl)) ?_
        refine e_split (d := 81) rfl (fun hg81 => ?_) (fun hg81 => ?_)
        ·skip
         refine e_exact 21 _ (by kernel_rfl) rfl rfl (by kernel_rfl) rfl (ex_x rfl (fun w1 h1 => x_load rfl (ld_blks ((S33.step h1).blk 0 rfl) Tryz.isAgg25 Tryz.sizeOf25 rfl rfl))) ?_
         refine e_exact 22 _ (by kernel_rfl) rfl rfl (by kernel_rfl) rfl (ex_x rfl (fun w1 h1 => x_mv rfl)) ?_
         refine e_exact 23 _ (by kernel_rfl) rfl rfl (by kernel_rfl) rfl (ex_x rfl (fun w1 h1 => x_mv rfl)) ?_
         refine e_exact 24 _ (by kernel_rfl) rfl rfl (by kernel_rfl) rfl (ex_x rfl (fun w1 h1 => x_mv rfl)) ?_
         refine e_exact 25 _ (by kernel_rfl) rfl rfl (by kernel_rfl) rfl (ex_x rfl (fun w1 h1 => x_mv rfl)) ?_
         refine e_next [26] (by kernel_rfl) (by kernel_rfl) ⟨⟨_, _, rfl, rfl, ?_⟩, trivial⟩
         refine s_callf [] [] [_, _] rfl rfl Tryz.call98 rfl ((c_rless lf _ hR.len k c hc (by have := hR.bd c (List.mem_of_getElem? hc); omega) _ (vec_rd (S33.at 2 rfl))).mono ?_)
         rintro v8735 w35 ⟨hN8735, hl8735⟩
         have S36 := S33.add hl8735 hN8735
         refine ⟨.of_le hl8735, ?_⟩
         refine e_next [27] (by kernel_rfl) (by kernel_rfl) ⟨⟨_, _, rfl, rfl, ?_⟩, trivial⟩
         refine s_callf [] [] [_, _, _, _] rfl rfl Tryz.call95 rfl ((c_rmet b vm vf day (found.drop (i + 1)) _ (giveC lf k 1) _ (by rw [List.length_drop]; omega) (by rw [giveC_len]; exact hR.len) (giveC_bd hc (by omega) hR.bd) _ (hB.le S36.le) (tailR_rd ht13 (hF.le S36.le)) (vec_rd (S36.at 3 rfl))).mono ?_)
         rintro _ w37 ⟨rfl, hl39⟩
         have S38 := S36.step hl39
         refine ⟨.of_le hl39, ?_⟩
         refine e_exact 28 _ (by kernel_rfl) rfl rfl (by kernel_rfl) rfl (ex_x rfl (fun w1 h1 => x_pick_t rfl rfl)) ?_
         refine e_done (by kernel_rfl) ?_
         refine l_nil ?_
         refine r_if rfl (fun hc89 => ?_) (fun hc89 => ?_)
         ·skip
          refine r_region ?_
          refine l_m rfl ?_
          refine l_a rfl ?_
          refine l_nil ?_
          refine r_inBlock ?_
          refine r_region ?_
          refine l_m rfl ?_
          refine l_x rfl (x_add rfl rfl (by omega)) ?_
          refine l_a rfl ?_
          refine l_nil ?_
          exact IHb (n + 1, some ((n : Int) + 1)) _ _ (by dsimp only; omega) ⟨rfl, rfl, rfl, rfl, rfl, rfl, rfl, rfl, rfl, trivial⟩ ⟨by omega, (fun h => by cases h), (fun z hz => by cases hz; exact find_owners (by omega) (hno rfl) (by rw [may_at hR.ap hk hc]; simp_all <;> omega)), (S38.take 3)⟩
         refine r_skip ?_
         refine r_inBlock ?_
         refine r_region ?_
         refine l_m rfl ?_
         refine l_x rfl (x_add rfl rfl (by omega)) ?_
         refine l_a rfl ?_
         refine l_nil ?_
         exact IHb (n + 1, none) _ _ (by dsimp only; omega) ⟨rfl, rfl, rfl, rfl, rfl, rfl, rfl, rfl, rfl, trivial⟩ ⟨by omega, (fun _ => no_step9 (P := fun q : Nat => mayGive (fitsO b day t) (fs b day (found.drop (i + 1))) lf ((q : Int) + 1)) (hno rfl) ((by rw [may_at hR.ap hk hc]; simp_all <;> omega))), (fun z hz => by cases hz), (S38.take 3)⟩
        refine e_exact 21 _ (by kernel_rfl) rfl rfl (by kernel_rfl) rfl (ex_pass rfl) ?_
        refine e_exact 22 _ (by kernel_rfl) rfl rfl (by kernel_rfl) rfl (ex_pass rfl) ?_
        refine e_exact 23 _ (by kernel_rfl) rfl rfl (by kernel_rfl) rfl (ex_pass rfl) ?_
        refine e_exact 24 _ (by kernel_rfl) rfl rfl (by kernel_rfl) rfl (ex_pass rfl) ?_
        refine e_exact 25 _ (by kernel_rfl) rfl rfl (by kernel_rfl) rfl (ex_pass rfl) ?_
        refine e_exact 26 _ (by kernel_rfl) rfl rfl (by kernel_rfl) rfl (ex_pass rfl) ?_
        refine e_exact 27 _ (by kernel_rfl) rfl rfl (by kernel_rfl) rfl (ex_pass rfl) ?_
        refine e_exact 28 _ (by kernel_rfl) rfl rfl (by kernel_rfl) rfl (ex_x rfl (fun w1 h1 => x_pick_f rfl rfl)) ?_
        refine e_done (by kernel_rfl) ?_
        refine l_nil ?_
        refine r_false rfl ?_
        refine r_skip ?_
        refine r_inBlock ?_
        refine r_region ?_
        refine l_m rfl ?_
        refine l_x rfl (x_add rfl rfl (by omega)) ?_
        refine l_a rfl ?_
        refine l_nil ?_
        exact IHb (n + 1, none) _ _ (by dsimp only; omega) ⟨rfl, rfl, rfl, rfl, rfl, rfl, rfl, rfl, rfl, trivial⟩ ⟨by omega, (fun _ => no_step9 (P := fun q : Nat => mayGive (fitsO b day t) (fs b day (found.drop (i + 1))) lf ((q : Int) + 1)) (hno rfl) ((by rw [may_at hR.ap hk hc]; simp_all <;> omega))), (fun z hz => by cases hz), (S33.take 3)⟩
       refine e_exact 11 _ (by kernel_rfl) rfl rfl (by kernel_rfl) rfl (ex_pass rfl) ?_
       refine e_exact 12 _ (by kernel_rfl) rfl rfl (by kernel_rfl) rfl (ex_pass rfl) ?_
       refine e_exact 13 _ (by kernel_rfl) rfl rfl (by kernel_rfl) rfl (ex_pass rfl) ?_
       refine e_exact 14 _ (by kernel_rfl) rfl rfl (by kernel_rfl) rfl (ex_pass rfl) ?_
       refine e_exact 15 _ (by kernel_rfl) rfl rfl (by kernel_rfl) rfl (ex_pass rfl) ?_
       refine e_exact 16 _ (by kernel_rfl) rfl rfl (by kernel_rfl) rfl (ex_pass rfl) ?_
       refine e_exact 17 _ (by kernel_rfl) rfl rfl (by kernel_rfl) rfl (ex_pass rfl) ?_
       refine e_exact 18 _ (by kernel_rfl) rfl rfl (by kernel_rfl) rfl (ex_pass rfl) ?_
       refine e_exact 19 _ (by kernel_rfl) rfl rfl (by kernel_rfl) rfl (ex_x rfl (fun w1 h1 => x_pick_f rfl rfl)) ?_
       refine e_exact 20 _ (by kernel_rfl) rfl rfl (by kernel_rfl) rfl (ex_x rfl (fun w1 h1 => x_mv rfl)) ?_
       refine e_exact 21 _ (by kernel_rfl) rfl rfl (by kernel_rfl) rfl (ex_pass rfl) ?_
       refine e_exact 22 _ (by kernel_rfl) rfl rfl (by kernel_rfl) rfl (ex_pass rfl) ?_
       refine e_exact 23 _ (by kernel_rfl) rfl rfl (by kernel_rfl) rfl (ex_pass rfl) ?_
       refine e_exact 24 _ (by kernel_rfl) rfl rfl (by kernel_rfl) rfl (ex_pass rfl) ?_
       refine e_exact 25 _ (by kernel_rfl) rfl rfl (by kernel_rfl) rfl (ex_pass rfl) ?_
       refine e_exact 26 _ (by kernel_rfl) rfl rfl (by kernel_rfl) rfl (ex_pass rfl) ?_
       refine e_exact 27 _ (by kernel_rfl) rfl rfl (by kernel_rfl) rfl (ex_pass rfl) ?_
       refine e_exact 28 _ (by kernel_rfl) rfl rfl (by kernel_rfl) rfl (ex_x rfl (fun w1 h1 => x_pick_f rfl rfl)) ?_
       refine e_done (by kernel_rfl) ?_
       refine l_nil ?_
       refine r_false rfl ?_
       refine r_skip ?_
       refine r_inBlock ?_
       refine r_region ?_
       refine l_m rfl ?_
       refine l_x rfl (x_add rfl rfl (by omega)) ?_
       refine l_a rfl ?_
       refine l_nil ?_
       exact IHb (n + 1, none) _ _ (by dsimp only; omega) ⟨rfl, rfl, rfl, rfl, rfl, rfl, rfl, rfl, rfl, trivial⟩ ⟨by omega, (fun _ => no_step9 (P := fun q : Nat => mayGive (fitsO b day t) (fs b day (found.drop (i + 1))) lf ((q : Int) + 1)) (hno rfl) ((by rw [may_at hR.ap hk hc]; simp_all <;> omega))), (fun z hz => by cases hz), (S25.take 3)⟩
      omega
     obtain ⟨z, rfl⟩ : ∃ z, fo = some z := by
      cases fo with
      | none => first | exact absurd rfl hc55 | exact (hR.pick ha hm9 (fun q hq => hno rfl q (by omega))).elim
      | some z => exact ⟨z, rfl⟩
     refine r_exit rfl ?_
     obtain ⟨k, c, hk, hc, hn0, hm2, hle⟩ := find_may hR.ap (hso z rfl)
     refine r_region ?_
     refine l_m rfl ?_
     refine l_m rfl ?_
     refine l_m rfl ?_
     refine l_call [] [] [_, _] rfl rfl Tryz.call96 rfl ((c_rclaimed lf _ z (by have := hR.len; omega) _ (vec_rd (S1b.at 2 rfl))).mono (fun v w' h => (⟨h.1.trans (congrArg (Value.int .i64) hk), h.2⟩ : v = .int .i64 (k : Int) ∧ Le _ w'))) ?_
     rintro _ w40 ⟨rfl, hl42⟩
     have S41 := S1b.step hl42
     refine l_call [] [] [_, _] rfl rfl Tryz.call98 rfl (c_rless lf _ hR.len k c hc (by have := hR.bd c (List.mem_of_getElem? hc); omega) _ (vec_rd (S41.at 2 rfl))) ?_
     rintro v9543 w43 ⟨hN9543, hl9543⟩
     have S44 := S41.add hl9543 hN9543
     refine l_a rfl ?_
     refine l_nil ?_
     refine r_region ?_
     refine l_m rfl ?_
     refine l_m rfl ?_
     refine l_buildSlice EI [z] S44 rfl Tryz.runUnderlying52 Tryz.sizeOf3 Tryz.zeroValue3 rfl ⟨rfl, rfl, trivial⟩ (Nat.le_of_ble_eq_true rfl) ?_
     intro v48 w45 S46 hl47
     refine l_append EI S46 1 rfl rfl rfl rfl (vec_rd (S46.at 4 rfl)) Tryz.underlying52 info3 rfl rfl rfl (by have := hR.ol; unfold maxLen; rw [List.length_singleton]; omega) (by have := hR.ol; rw [List.length_singleton]; show _ * 8 ≤ _; omega) ?_
     intro v52 w49 S50 hk51 hv53
     refine l_a rfl ?_
     refine l_nil ?_
     refine r_inBlock ?_
     refine r_region ?_
     refine l_m rfl ?_
     refine l_x rfl (x_add rfl rfl (by omega)) ?_
     refine l_a rfl ?_
     refine l_nil ?_
     exact IH (i + 1, v52, ol ++ [z], v9543, lessC lf z, false) _ _ (by dsimp only; omega) ⟨rfl, rfl, rfl, rfl, rfl, rfl, trivial⟩ ⟨by omega, hR.give9 ha hm9 (hso z rfl), (fun h => by cases h), (by have h := S50.pick (L' := [_, _, _]) [0, 1, 3] (by decide) rfl; rw [hle] at h; exact h)⟩
    obtain ⟨z, rfl⟩ : ∃ z, fo = some z := by
     cases fo with
     | none => exact (hR.pick ha hm9 (fun q hq => hno rfl q (by omega))).elim
     | some z => exact ⟨z, rfl⟩
    refine l_pass rfl ?_
    refine l_pass rfl ?_
    refine l_x rfl (x_pick_f rfl rfl) ?_
    refine l_nil ?_
    refine r_false rfl ?_
    refine r_exit rfl ?_
    obtain ⟨k, c, hk, hc, hn0, hm2, hle⟩ := find_may hR.ap (hso z rfl)
    refine r_region ?_
    refine l_m rfl ?_
    refine l_m rfl ?_
    refine l_m rfl ?_
    refine l_call [] [] [_, _] rfl rfl Tryz.call96 rfl ((c_rclaimed lf _ z (by have := hR.len; omega) _ (vec_rd (S1b.at 2 rfl))).mono (fun v w' h => (⟨h.1.trans (congrArg (Value.int .i64) hk), h.2⟩ : v = .int .i64 (k : Int) ∧ Le _ w'))) ?_
    rintro _ w54 ⟨rfl, hl56⟩
    have S55 := S1b.step hl56
    refine l_call [] [] [_, _] rfl rfl Tryz.call98 rfl (c_rless lf _ hR.len k c hc (by have := hR.bd c (List.mem_of_getElem? hc); omega) _ (vec_rd (S55.at 2 rfl))) ?_
    rintro v9557 w57 ⟨hN9557, hl9557⟩
    have S58 := S55.add hl9557 hN9557
    refine l_a rfl ?_
    refine l_nil ?_
    refine r_region ?_
    refine l_m rfl ?_
    refine l_m rfl ?_
    refine l_buildSlice EI [z] S58 rfl Tryz.runUnderlying52 Tryz.sizeOf3 Tryz.zeroValue3 rfl ⟨rfl, rfl, trivial⟩ (Nat.le_of_ble_eq_true rfl) ?_
    intro v62 w59 S60 hl61
    refine l_append EI S60 1 rfl rfl rfl rfl (vec_rd (S60.at 4 rfl)) Tryz.underlying52 info3 rfl rfl rfl (by have := hR.ol; unfold maxLen; rw [List.length_singleton]; omega) (by have := hR.ol; rw [List.length_singleton]; show _ * 8 ≤ _; omega) ?_
    intro v66 w63 S64 hk65 hv67
    refine l_a rfl ?_
    refine l_nil ?_
    refine r_inBlock ?_
    refine r_region ?_
    refine l_m rfl ?_
    refine l_x rfl (x_add rfl rfl (by omega)) ?_
    refine l_a rfl ?_
    refine l_nil ?_
    exact IH (i + 1, v66, ol ++ [z], v9557, lessC lf z, false) _ _ (by dsimp only; omega) ⟨rfl, rfl, rfl, rfl, rfl, rfl, trivial⟩ ⟨by omega, hR.give9 ha hm9 (hso z rfl), (fun h => by cases h), (by have h := S64.pick (L' := [_, _, _]) [0, 1, 3] (by decide) rfl; rw [hle] at h; exact h)⟩
   have hm9 : metB (fs b day (found.drop (i + 1))) lf = true := by simpa using hc49
   refine r_skip ?_
   refine r_region ?_
   refine l_m rfl ?_
   refine l_m rfl ?_
   refine l_buildSlice EI [0] S15 rfl Tryz.runUnderlying52 Tryz.sizeOf3 Tryz.zeroValue3 rfl ⟨rfl, rfl, trivial⟩ (Nat.le_of_ble_eq_true rfl) ?_
   intro v71 w68 S69 hl70
   refine l_append EI S69 1 rfl rfl rfl rfl (vec_rd (S69.at 3 rfl)) Tryz.underlying52 info3 rfl rfl rfl (by have := hR.ol; unfold maxLen; rw [List.length_singleton]; omega) (by have := hR.ol; rw [List.length_singleton]; show _ * 8 ≤ _; omega) ?_
   intro v75 w72 S73 hk74 hv76
   refine l_a rfl ?_
   refine l_nil ?_
   refine r_inBlock ?_
   refine r_region ?_
   refine l_m rfl ?_
   refine l_x rfl (x_add rfl rfl (by omega)) ?_
   refine l_a rfl ?_
   refine l_nil ?_
   exact IH (i + 1, v75, ol ++ [0], vl, lf, false) _ _ (by dsimp only; omega) ⟨rfl, rfl, rfl, rfl, rfl, rfl, trivial⟩ ⟨by omega, hR.stay ha hm9, (fun h => by cases h), (S73.take 3)⟩
  obtain ⟨rfl, rfl⟩ := hfl rfl
  refine r_region ?_
  refine l_a rfl ?_
  refine l_nil ?_
  refine r_seq ?_
  refine r_region ?_
  refine l_m rfl ?_
  refine l_m rfl ?_
  refine l_x rfl (x_add rfl rfl (by omega)) ?_
  refine l_tailR (hF.le S1.le) rfl rfl rfl Tryz.runUnderlying50 Tryz.sizeOf30 (by omega) ?_
  intro v77 ht78
  refine l_a rfl ?_
  refine l_nil ?_
  refine r_seq ?_
  refine r_seq ?_
  refine r_region ?_
  refine l_x rfl (x_load rfl (ld_blks (S1.blk 0 rfl) Tryz.isAgg25 Tryz.sizeOf25 rfl rfl)) ?_
  refine l_m rfl ?_
  refine l_m rfl ?_
  refine l_m rfl ?_
  refine l_call [] [] [_, _, _, _] rfl rfl Tryz.call95 rfl (c_rmet b vm vf day (found.drop (i + 1)) _ cq _ (by rw [List.length_drop]; omega) hR.len hR.bd _ (hB.le S1.le) (tailR_rd ht78 (hF.le S1.le)) (hC.le S1.le)) ?_
  rintro _ w79 ⟨rfl, hl81⟩
  have S80 := S1.step hl81
  refine l_x rfl (x_not rfl) ?_
  refine l_nil ?_
  refine r_if rfl (fun hc49 => ?_) (fun hc49 => ?_)
  ·skip
   have hm9 : metB (fs b day (found.drop (i + 1))) cq = false := by simpa using hc49
   refine r_seq ?_
   refine r_seq ?_
   refine r_region ?_
   refine l_a rfl ?_
   refine l_nil ?_
   refine r_block ?_
   refine r_loop (G := Nat × Option Int) (fun ⟨n, fo⟩ => 40 - n) (fun ⟨n, fo⟩ => [(1, Value.int .i64 day), (2, vs), (4, .pointer (some ⟨b4, 0, none⟩)), (12, vo), (13, vq), (14, Value.int .i64 i), (15, Value.int .i64 (fo.getD 0)), (16, v77), (17, Value.int .i64 ((n : Int) + 1))]) (fun ⟨n, fo⟩ w' => (n ≤ 40) ∧ (fo = none → ∀ q : Nat, q < n → mayGive (fitsO b day t) (fs b day (found.drop (i + 1))) cq ((q : Int) + 1) = false) ∧ (∀ z, fo = some z → owners.find? (mayGive (fitsO b day t) (fs b day (found.drop (i + 1))) cq) = some z) ∧ Own nob w w' [blk b4 [vm, vf] 25, vec EI vo ol]) (0, none) ⟨rfl, rfl, rfl, rfl, rfl, rfl, rfl, rfl, rfl, trivial⟩ ⟨Nat.zero_le _, (fun _ q h => absurd h (Nat.not_lt_zero q)), (fun z h => by cases h), (S80.take 2)⟩ ?_
   rintro ⟨n, fo⟩ ρ w1b ⟨hn, hno, hso, S1b⟩ IHb
   refine r_seq ?_
   refine r_seq ?_
   refine r_region ?_
   refine l_m rfl ?_
   refine l_x rfl (x_leq rfl rfl) ?_
   refine l_m rfl ?_
   refine l_splitd (d := 52) rfl (fun hg52 => ?_) (fun hg52 => ?_)
   ·skip
    refine l_m rfl ?_
    refine l_x rfl (x_eql rfl rfl) ?_
    refine l_x rfl (x_pick_t rfl rfl) ?_
    refine l_nil ?_
    refine r_ifd rfl (fun hc55 => ?_) (fun hc55 => ?_)
    ·skip
     obtain rfl : fo = none := by
      cases fo with
      | none => rfl
      | some z => have h9 := find_one (hso z rfl); simp at hc55; omega
     refine r_skip ?_
     refine r_seq ?_
     refine r_block ?_
     refine r_seq ?_
     refine r_region ?_
     refine l_m rfl ?_
     refine l_m rfl ?_
     refine l_call [] [] [_, _] rfl rfl Tryz.call96 rfl (c_rclaimed cq _ ((n : Int) + 1) (by have := hR.len; omega) _ (hC.le S1b.le)) ?_
     rintro _ w82 ⟨rfl, hl84⟩
     have S83 := S1b.step hl84
     refine l_a rfl ?_
     refine l_nil ?_
     refine r_seq ?_
     rcases ix_casesG (fun a : Clm => decide (a.owner = (n : Int) + 1)) cq with ⟨hn9, -⟩ | ⟨k, c, hk, hc, -⟩
     ·skip
      refine r_slot 18 (.int .i64 (-1)) (congrArg (Value.int .i64) hn9) ?_
      refine r_drawE 29 nob Tryz.mixed (by kernel_rfl) ?_
      intro w85 hl86
      have S87 := S83.step hl86
      refine e_exact 0 _ (by kernel_rfl) rfl rfl (by kernel_rfl) rfl (ex_x rfl (fun w1 h1 => x_mv rfl)) ?_
      refine e_exact 1 _ (by kernel_rfl) rfl rfl (by kernel_rfl) rfl (ex_x rfl (fun w1 h1 => x_geq rfl rfl)) ?_
      refine e_exact 2 _ (by kernel_rfl) rfl rfl (by kernel_rfl) rfl (ex_x rfl (fun w1 h1 => x_mv rfl)) ?_
      refine e_splitd (d := 63) rfl (fun hg63 => ?_) (fun hg63 => ?_)
      ·omega
      refine e_exact 3 _ (by kernel_rfl) rfl rfl (by kernel_rfl) rfl (ex_pass rfl) ?_
      refine e_exact 4 _ (by kernel_rfl) rfl rfl (by kernel_rfl) rfl (ex_pass rfl) ?_
      refine e_exact 5 _ (by kernel_rfl) rfl rfl (by kernel_rfl) rfl (ex_pass rfl) ?_
      refine e_exact 6 _ (by kernel_rfl) rfl rfl (by kernel_rfl) rfl (ex_pass rfl) ?_
      refine e_exact 7 _ (by kernel_rfl) rfl rfl (by kernel_rfl) rfl (ex_pass rfl) ?_
      refine e_exact 8 _ (by kernel_rfl) rfl rfl (by kernel_rfl) rfl (ex_pass rfl) ?_
      refine e_exact 9 _ (by kernel_rfl) rfl rfl (by kernel_rfl) rfl (ex_x rfl (fun w1 h1 => x_pick_f rfl rfl)) ?_
      refine e_exact 10 _ (by kernel_rfl) rfl rfl (by kernel_rfl) rfl (ex_x rfl (fun w1 h1 => x_mv rfl)) ?_
      refine e_exact 11 _ (by kernel_rfl) rfl rfl (by kernel_rfl) rfl (ex_pass rfl) ?_
      refine e_exact 12 _ (by kernel_rfl) rfl rfl (by kernel_rfl) rfl (ex_pass rfl) ?_
      refine e_exact 13 _ (by kernel_rfl) rfl rfl (by kernel_rfl) rfl (ex_pass rfl) ?_
      refine e_exact 14 _ (by kernel_rfl) rfl rfl (by kernel_rfl) rfl (ex_pass rfl) ?_
      refine e_exact 15 _ (by kernel_rfl) rfl rfl (by kernel_rfl) rfl (ex_pass rfl) ?_
      refine e_exact 16 _ (by kernel_rfl) rfl rfl (by kernel_rfl) rfl (ex_pass rfl) ?_
      refine e_exact 17 _ (by kernel_rfl) rfl rfl (by kernel_rfl) rfl (ex_pass rfl) ?_
      refine e_exact 18 _ (by kernel_rfl) rfl rfl (by kernel_rfl) rfl (ex_pass rfl) ?_
      refine e_exact 19 _ (by kernel_rfl) rfl rfl (by kernel_rfl) rfl (ex_x rfl (fun w1 h1 => x_pick_f rfl rfl)) ?_
      refine e_exact 20 _ (by kernel_rfl) rfl rfl (by kernel_rfl) rfl (ex_x rfl (fun w1 h1 => x_mv rfl)) ?_
      refine e_exact 21 _ (by kernel_rfl) rfl rfl (by kernel_rfl) rfl (ex_pass rfl) ?_
      refine e_exact 22 _ (by kernel_rfl) rfl rfl (by kernel_rfl) rfl (ex_pass rfl) ?_
      refine e_exact 23 _ (by kernel_rfl) rfl rfl (by kernel_rfl) rfl (ex_pass rfl) ?_
      refine e_exact 24 _ (by kernel_rfl) rfl rfl (by kernel_rfl) rfl (ex_pass rfl) ?_
      refine e_exact 25 _ (by kernel_rfl) rfl rfl (by kernel_rfl) rfl (ex_pass rfl) ?_
      refine e_exact 26 _ (by kernel_rfl) rfl rfl (by kernel_rfl) rfl (ex_pass rfl) ?_
      refine e_exact 27 _ (by kernel_rfl) rfl rfl (by kernel_rfl) rfl (ex_pass rfl) ?_
      refine e_exact 28 _ (by kernel_rfl) rfl rfl (by kernel_rfl) rfl (ex_x rfl (fun w1 h1 => x_pick_f rfl rfl)) ?_
      refine e_done (by kernel_rfl) ?_
      refine l_nil ?_
      refine r_false rfl ?_
      refine r_skip ?_
      refine r_inBlock ?_
      refine r_region ?_
      refine l_m rfl ?_
      refine l_x rfl (x_add rfl rfl (by omega)) ?_
      refine l_a rfl ?_
      refine l_nil ?_
      exact IHb (n + 1, none) _ _ (by dsimp only; omega) ⟨rfl, rfl, rfl, rfl, rfl, rfl, rfl, rfl, rfl, trivial⟩ ⟨by omega, (fun _ => no_step9 (P := fun q : Nat => mayGive (fitsO b day t) (fs b day (found.drop (i + 1))) cq ((q : Int) + 1)) (hno rfl) (may_no hn9)), (fun z hz => by cases hz), (S87.take 2)⟩
     refine r_slot 18 (.int .i64 (k : Int)) (congrArg (Value.int .i64) hk) ?_
     have hkl := (List.getElem?_eq_some_iff.1 hc).1
     refine r_drawE 29 nob Tryz.mixed (by kernel_rfl) ?_
     intro w88 hl89
     have S90 := S83.step hl89
     refine e_exact 0 _ (by kernel_rfl) rfl rfl (by kernel_rfl) rfl (ex_x rfl (fun w1 h1 => x_mv rfl)) ?_
     refine e_exact 1 _ (by kernel_rfl) rfl rfl (by kernel_rfl) rfl (ex_x rfl (fun w1 h1 => x_geq rfl rfl)) ?_
     refine e_exact 2 _ (by kernel_rfl) rfl rfl (by kernel_rfl) rfl (ex_x rfl (fun w1 h1 => x_mv rfl)) ?_
     refine e_splitd (d := 63) rfl (fun hg63 => ?_) (fun hg63 => ?_)
     ·skip
      refine e_exact 3 _ (by kernel_rfl) rfl rfl (by kernel_rfl) rfl (ex_x rfl (fun w1 h1 => x_mv rfl)) ?_
      refine e_exact 4 _ (by kernel_rfl) rfl rfl (by kernel_rfl) rfl (ex_x rfl (fun w1 h1 => x_mv rfl)) ?_
      refine e_index ECL 5 (by kernel_rfl) rfl rfl (by kernel_rfl) rfl rfl (hC.le S90.le) rfl rfl Tryz.runUnderlying51 Tryz.sizeOf83 (by omega) hc ?_
      intro b91 o92 hat93
      refine e_exact 6 _ (by kernel_rfl) rfl rfl (by kernel_rfl) rfl (ex_x rfl (fun w1 h1 => x_fieldAddr rfl Tryz.runUnderlying83 rfl Tryz.sizeOf3 (by decide))) ?_
      refine e_exact 7 _ (by kernel_rfl) rfl rfl (by kernel_rfl) rfl (ex_x rfl (fun w1 h1 => x_load rfl (ld_cell Tryz.isAgg3 ((rd_row (hC.le (S90.step h1).le) hat93 hc) 1 _ rfl)))) ?_
      refine e_exact 8 _ (by kernel_rfl) rfl rfl (by kernel_rfl) rfl (ex_x rfl (fun w1 h1 => x_gtr rfl rfl)) ?_
      refine e_exact 9 _ (by kernel_rfl) rfl rfl (by kernel_rfl) rfl (ex_x rfl (fun w1 h1 => x_pick_t rfl rfl)) ?_
      refine e_exact 10 _ (by kernel_rfl) rfl rfl (by kernel_rfl) rfl (ex_x rfl (fun w1 h1 => x_mv rfl)) ?_
      refine e_splitd (d := 71) rfl (fun hg71 => ?_) (fun hg71 => ?_)
      ·skip
       refine e_exact 11 _ (by kernel_rfl) rfl rfl (by kernel_rfl) rfl (ex_x rfl (fun w1 h1 => x_load rfl (ld_blks ((S90.step h1).blk 0 rfl) Tryz.isAgg25 Tryz.sizeOf25 rfl rfl))) ?_
       refine e_exact 12 _ (by kernel_rfl) rfl rfl (by kernel_rfl) rfl (ex_x rfl (fun w1 h1 => x_mv rfl)) ?_
       refine e_exact 13 _ (by kernel_rfl) rfl rfl (by kernel_rfl) rfl (ex_x rfl (fun w1 h1 => x_mv rfl)) ?_
       refine e_exact 14 _ (by kernel_rfl) rfl rfl (by kernel_rfl) rfl (ex_x rfl (fun w1 h1 => x_mv rfl)) ?_
       refine e_index ESG 15 (by kernel_rfl) rfl rfl (by kernel_rfl) rfl rfl (hF.le S90.le) rfl rfl Tryz.runUnderlying50 Tryz.sizeOf30 (by omega) ha ?_
       intro b94 o95 hat96
       refine e_exact 16 _ (by kernel_rfl) rfl rfl (by kernel_rfl) rfl (ex_x rfl (fun w1 h1 => x_load rfl (ld_row Tryz.isAgg30 Tryz.sizeOf30 rfl (rd_row (hF.le (S90.step h1).le) hat96 ha)))) ?_
       refine e_exact 17 _ (by kernel_rfl) rfl rfl (by kernel_rfl) rfl (ex_x rfl (fun w1 h1 => x_mv rfl)) ?_
       refine e_next [18] (by kernel_rfl) (by kernel_rfl) ⟨⟨_, _, rfl, rfl, ?_⟩, trivial⟩
       refine s_callf [] [] [_, _, _, _] rfl rfl Tryz.call97 rfl ((c_rfits b vm vf day ((n : Int) + 1) t _ (hB.le S90.le)).mono ?_)
       rintro _ w97 ⟨rfl, hl99⟩
       have S98 := S90.step hl99
       refine ⟨.of_le hl99, ?_⟩
       refine e_exact 19 _ (by kernel_rfl) rfl rfl (by kernel_rfl) rfl (ex_x rfl (fun w1 h1 => x_pick_t rfl rfl)) ?_
       refine e_exact 20 _ (by kernel_rfl) rfl rfl (by kernel_rfl) rfl (ex_x rfl (fun w1 h1 => x_mv rfl)) ?_
       refine e_split (d := 81) rfl (fun hg81 => ?_) (fun hg81 => ?_)
       ·skip
        refine e_exact 21 _ (by kernel_rfl) rfl rfl (by kernel_rfl) rfl (ex_x rfl (fun w1 h1 => x_load rfl (ld_blks ((S98.step h1).blk 0 rfl) Tryz.isAgg25 Tryz.sizeOf25 rfl rfl))) ?_
        refine e_exact 22 _ (by kernel_rfl) rfl rfl (by kernel_rfl) rfl (ex_x rfl (fun w1 h1 => x_mv rfl)) ?_
        refine e_exact 23 _ (by kernel_rfl) rfl rfl (by kernel_rfl) rfl (ex_x rfl (fun w1 h1 => x_mv rfl)) ?_
        refine e_exact 24 _ (by kernel_rfl) rfl rfl (by kernel_rfl) rfl (ex_x rfl (fun w1 h1 => x_mv rfl)) ?_
        refine e_exact 25 _ (by kernel_rfl) rfl rfl (by kernel_rfl) rfl (ex_x rfl (fun w1 h1 => x_mv rfl)) ?_
        refine e_next [26] (by kernel_rfl) (by kernel_rfl) ⟨⟨_, _, rfl, rfl, ?_⟩, trivial⟩
        refine s_callf [] [] [_, _] rfl rfl Tryz.call98 rfl ((c_rless cq _ hR.len k c hc (by have := hR.bd c (List.mem_of_getElem? hc); omega) _ (hC.le S98.le)).mono ?_)
        rintro v87100 w100 ⟨hN87100, hl87100⟩
        have S101 := S98.add hl87100 hN87100
        refine ⟨.of_le hl87100, ?_⟩
        refine e_next [27] (by kernel_rfl) (by kernel_rfl) ⟨⟨_, _, rfl, rfl, ?_⟩, trivial⟩
        refine s_callf [] [] [_, _, _, _] rfl rfl Tryz.call95 rfl ((c_rmet b vm vf day (found.drop (i + 1)) _ (giveC cq k 1) _ (by rw [List.length_drop]; omega) (by rw [giveC_len]; exact hR.len) (giveC_bd hc (by omega) hR.bd) _ (hB.le S101.le) (tailR_rd ht78 (hF.le S101.le)) (vec_rd (S101.at 2 rfl))).mono ?_)
        rintro _ w102 ⟨rfl, hl104⟩
        have S103 := S101.step hl104
        refine ⟨.of_le hl104, ?_⟩
        refine e_exact 28 _ (by kernel_rfl) rfl rfl (by kernel_rfl) rfl (ex_x rfl (fun w1 h1 => x_pick_t rfl rfl)) ?_
        refine e_done (by kernel_rfl) ?_
        refine l_nil ?_
        refine r_if rfl (fun hc89 => ?_) (fun hc89 => ?_)
        ·skip
         refine r_region ?_
         refine l_m rfl ?_
         refine l_a rfl ?_
         refine l_nil ?_
         refine r_inBlock ?_
         refine r_region ?_
         refine l_m rfl ?_
         refine l_x rfl (x_add rfl rfl (by omega)) ?_
         refine l_a rfl ?_
         refine l_nil ?_
         exact IHb (n + 1, some ((n : Int) + 1)) _ _ (by dsimp only; omega) ⟨rfl, rfl, rfl, rfl, rfl, rfl, rfl, rfl, rfl, trivial⟩ ⟨by omega, (fun h => by cases h), (fun z hz => by cases hz; exact find_owners (by omega) (hno rfl) (by rw [may_at hR.ap hk hc]; simp_all <;> omega)), (S103.take 2)⟩
        refine r_skip ?_
        refine r_inBlock ?_
        refine r_region ?_
        refine l_m rfl ?_
        refine l_x rfl (x_add rfl rfl (by omega)) ?_
        refine l_a rfl ?_
        refine l_nil ?_
        exact IHb (n + 1, none) _ _ (by dsimp only; omega) ⟨rfl, rfl, rfl, rfl, rfl, rfl, rfl, rfl, rfl, trivial⟩ ⟨by omega, (fun _ => no_step9 (P := fun q : Nat => mayGive (fitsO b day t) (fs b day (found.drop (i + 1))) cq ((q : Int) + 1)) (hno rfl) ((by rw [may_at hR.ap hk hc]; simp_all <;> omega))), (fun z hz => by cases hz), (S103.take 2)⟩
       refine e_exact 21 _ (by kernel_rfl) rfl rfl (by kernel_rfl) rfl (ex_pass rfl) ?_
       refine e_exact 22 _ (by kernel_rfl) rfl rfl (by kernel_rfl) rfl (ex_pass rfl) ?_
       refine e_exact 23 _ (by kernel_rfl) rfl rfl (by kernel_rfl) rfl (ex_pass rfl) ?_
       refine e_exact 24 _ (by kernel_rfl) rfl rfl (by kernel_rfl) rfl (ex_pass rfl) ?_
       refine e_exact 25 _ (by kernel_rfl) rfl rfl (by kernel_rfl) rfl (ex_pass rfl) ?_
       refine e_exact 26 _ (by kernel_rfl) rfl rfl (by kernel_rfl) rfl (ex_pass rfl) ?_
       refine e_exact 27 _ (by kernel_rfl) rfl rfl (by kernel_rfl) rfl (ex_pass rfl) ?_
       refine e_exact 28 _ (by kernel_rfl) rfl rfl (by kernel_rfl) rfl (ex_x rfl (fun w1 h1 => x_pick_f rfl rfl)) ?_
       refine e_done (by kernel_rfl) ?_
       refine l_nil ?_
       refine r_false rfl ?_
       refine r_skip ?_
       refine r_inBlock ?_
       refine r_region ?_
       refine l_m rfl ?_
       refine l_x rfl (x_add rfl rfl (by omega)) ?_
       refine l_a rfl ?_
       refine l_nil ?_
       exact IHb (n + 1, none) _ _ (by dsimp only; omega) ⟨rfl, rfl, rfl, rfl, rfl, rfl, rfl, rfl, rfl, trivial⟩ ⟨by omega, (fun _ => no_step9 (P := fun q : Nat => mayGive (fitsO b day t) (fs b day (found.drop (i + 1))) cq ((q : Int) + 1)) (hno rfl) ((by rw [may_at hR.ap hk hc]; simp_all <;> omega))), (fun z hz => by cases hz), (S98.take 2)⟩
      refine e_exact 11 _ (by kernel_rfl) rfl rfl (by kernel_rfl) rfl (ex_pass rfl) ?_
      refine e_exact 12 _ (by kernel_rfl) rfl rfl (by kernel_rfl) rfl (ex_pass rfl) ?_
      refine e_exact 13 _ (by kernel_rfl) rfl rfl (by kernel_rfl) rfl (ex_pass rfl) ?_
      refine e_exact 14 _ (by kernel_rfl) rfl rfl (by kernel_rfl) rfl (ex_pass rfl) ?_
      refine e_exact 15 _ (by kernel_rfl) rfl rfl (by kernel_rfl) rfl (ex_pass rfl) ?_
      refine e_exact 16 _ (by kernel_rfl) rfl rfl (by kernel_rfl) rfl (ex_pass rfl) ?_
      refine e_exact 17 _ (by kernel_rfl) rfl rfl (by kernel_rfl) rfl (ex_pass rfl) ?_
      refine e_exact 18 _ (by kernel_rfl) rfl rfl (by kernel_rfl) rfl (ex_pass rfl) ?_
      refine e_exact 19 _ (by kernel_rfl) rfl rfl (by kernel_rfl) rfl (ex_x rfl (fun w1 h1 => x_pick_f rfl rfl)) ?_
      refine e_exact 20 _ (by kernel_rfl) rfl rfl (by kernel_rfl) rfl (ex_x rfl (fun w1 h1 => x_mv rfl)) ?_
      refine e_exact 21 _ (by kernel_rfl) rfl rfl (by kernel_rfl) rfl (ex_pass rfl) ?_
      refine e_exact 22 _ (by kernel_rfl) rfl rfl (by kernel_rfl) rfl (ex_pass rfl) ?_
      refine e_exact 23 _ (by kernel_rfl) rfl rfl (by kernel_rfl) rfl (ex_pass rfl) ?_
      refine e_exact 24 _ (by kernel_rfl) rfl rfl (by kernel_rfl) rfl (ex_pass rfl) ?_
      refine e_exact 25 _ (by kernel_rfl) rfl rfl (by kernel_rfl) rfl (ex_pass rfl) ?_
      refine e_exact 26 _ (by kernel_rfl) rfl rfl (by kernel_rfl) rfl (ex_pass rfl) ?_
      refine e_exact 27 _ (by kernel_rfl) rfl rfl (by kernel_rfl) rfl (ex_pass rfl) ?_
      refine e_exact 28 _ (by kernel_rfl) rfl rfl (by kernel_rfl) rfl (ex_x rfl (fun w1 h1 => x_pick_f rfl rfl)) ?_
      refine e_done (by kernel_rfl) ?_
      refine l_nil ?_
      refine r_false rfl ?_
      refine r_skip ?_
      refine r_inBlock ?_
      refine r_region ?_
      refine l_m rfl ?_
      refine l_x rfl (x_add rfl rfl (by omega)) ?_
      refine l_a rfl ?_
      refine l_nil ?_
      exact IHb (n + 1, none) _ _ (by dsimp only; omega) ⟨rfl, rfl, rfl, rfl, rfl, rfl, rfl, rfl, rfl, trivial⟩ ⟨by omega, (fun _ => no_step9 (P := fun q : Nat => mayGive (fitsO b day t) (fs b day (found.drop (i + 1))) cq ((q : Int) + 1)) (hno rfl) ((by rw [may_at hR.ap hk hc]; simp_all <;> omega))), (fun z hz => by cases hz), (S90.take 2)⟩
     omega
    obtain ⟨z, rfl⟩ : ∃ z, fo = some z := by
     cases fo with
     | none => first | exact absurd rfl hc55 | exact (hR.pick ha hm9 (fun q hq => hno rfl q (by omega))).elim
     | some z => exact ⟨z, rfl⟩
    refine r_exit rfl ?_
    obtain ⟨k, c, hk, hc, hn0, hm2, hle⟩ := find_may hR.ap (hso z rfl)
    refine r_region ?_
    refine l_m rfl ?_
    refine l_m rfl ?_
    refine l_m rfl ?_
    refine l_call [] [] [_, _] rfl rfl Tryz.call96 rfl ((c_rclaimed cq _ z (by have := hR.len; omega) _ (hC.le S1b.le)).mono (fun v w' h => (⟨h.1.trans (congrArg (Value.int .i64) hk), h.2⟩ : v = .int .i64 (k : Int) ∧ Le _ w'))) ?_
    rintro _ w105 ⟨rfl, hl107⟩
    have S106 := S1b.step hl107
    refine l_call [] [] [_, _] rfl rfl Tryz.call98 rfl (c_rless cq _ hR.len k c hc (by have := hR.bd c (List.mem_of_getElem? hc); omega) _ (hC.le S106.le)) ?_
    rintro v95108 w108 ⟨hN95108, hl95108⟩
    have S109 := S106.add hl95108 hN95108
    refine l_a rfl ?_
    refine l_nil ?_
    refine r_region ?_
    refine l_m rfl ?_
    refine l_m rfl ?_
    refine l_buildSlice EI [z] S109 rfl Tryz.runUnderlying52 Tryz.sizeOf3 Tryz.zeroValue3 rfl ⟨rfl, rfl, trivial⟩ (Nat.le_of_ble_eq_true rfl) ?_
    intro v113 w110 S111 hl112
    refine l_append EI S111 1 rfl rfl rfl rfl (vec_rd (S111.at 3 rfl)) Tryz.underlying52 info3 rfl rfl rfl (by have := hR.ol; unfold maxLen; rw [List.length_singleton]; omega) (by have := hR.ol; rw [List.length_singleton]; show _ * 8 ≤ _; omega) ?_
    intro v117 w114 S115 hk116 hv118
    refine l_a rfl ?_
    refine l_nil ?_
    refine r_inBlock ?_
    refine r_region ?_
    refine l_m rfl ?_
    refine l_x rfl (x_add rfl rfl (by omega)) ?_
    refine l_a rfl ?_
    refine l_nil ?_
    exact IH (i + 1, v117, ol ++ [z], v95108, lessC cq z, false) _ _ (by dsimp only; omega) ⟨rfl, rfl, rfl, rfl, rfl, rfl, trivial⟩ ⟨by omega, hR.give9 ha hm9 (hso z rfl), (fun h => by cases h), (by have h := S115.pick (L' := [_, _, _]) [0, 1, 2] (by decide) rfl; rw [hle] at h; exact h)⟩
   obtain ⟨z, rfl⟩ : ∃ z, fo = some z := by
    cases fo with
    | none => exact (hR.pick ha hm9 (fun q hq => hno rfl q (by omega))).elim
    | some z => exact ⟨z, rfl⟩
   refine l_pass rfl ?_
   refine l_pass rfl ?_
   refine l_x rfl (x_pick_f rfl rfl) ?_
   refine l_nil ?_
   refine r_false rfl ?_
   refine r_exit rfl ?_
   obtain ⟨k, c, hk, hc, hn0, hm2, hle⟩ := find_may hR.ap (hso z rfl)
   refine r_region ?_
   refine l_m rfl ?_
   refine l_m rfl ?_
   refine l_m rfl ?_
   refine l_call [] [] [_, _] rfl rfl Tryz.call96 rfl ((c_rclaimed cq _ z (by have := hR.len; omega) _ (hC.le S1b.le)).mono (fun v w' h => (⟨h.1.trans (congrArg (Value.int .i64) hk), h.2⟩ : v = .int .i64 (k : Int) ∧ Le _ w'))) ?_
   rintro _ w119 ⟨rfl, hl121⟩
   have S120 := S1b.step hl121
   refine l_call [] [] [_, _] rfl rfl Tryz.call98 rfl (c_rless cq _ hR.len k c hc (by have := hR.bd c (List.mem_of_getElem? hc); omega) _ (hC.le S120.le)) ?_
   rintro v95122 w122 ⟨hN95122, hl95122⟩
   have S123 := S120.add hl95122 hN95122
   refine l_a rfl ?_
   refine l_nil ?_
   refine r_region ?_
   refine l_m rfl ?_
   refine l_m rfl ?_
   refine l_buildSlice EI [z] S123 rfl Tryz.runUnderlying52 Tryz.sizeOf3 Tryz.zeroValue3 rfl ⟨rfl, rfl, trivial⟩ (Nat.le_of_ble_eq_true rfl) ?_
   intro v127 w124 S125 hl126
   refine l_append EI S125 1 rfl rfl rfl rfl (vec_rd (S125.at 3 rfl)) Tryz.underlying52 info3 rfl rfl rfl (by have := hR.ol; unfold maxLen; rw [List.length_singleton]; omega) (by have := hR.ol; rw [List.length_singleton]; show _ * 8 ≤ _; omega) ?_
   intro v131 w128 S129 hk130 hv132
   refine l_a rfl ?_
   refine l_nil ?_
   refine r_inBlock ?_
   refine r_region ?_
   refine l_m rfl ?_
   refine l_x rfl (x_add rfl rfl (by omega)) ?_
   refine l_a rfl ?_
   refine l_nil ?_
   exact IH (i + 1, v131, ol ++ [z], v95122, lessC cq z, false) _ _ (by dsimp only; omega) ⟨rfl, rfl, rfl, rfl, rfl, rfl, trivial⟩ ⟨by omega, hR.give9 ha hm9 (hso z rfl), (fun h => by cases h), (by have h := S129.pick (L' := [_, _, _]) [0, 1, 2] (by decide) rfl; rw [hle] at h; exact h)⟩
  have hm9 : metB (fs b day (found.drop (i + 1))) cq = true := by simpa using hc49
  refine r_skip ?_
  refine r_region ?_
  refine l_m rfl ?_
  refine l_m rfl ?_
  refine l_buildSlice EI [0] S80 rfl Tryz.runUnderlying52 Tryz.sizeOf3 Tryz.zeroValue3 rfl ⟨rfl, rfl, trivial⟩ (Nat.le_of_ble_eq_true rfl) ?_
  intro v136 w133 S134 hl135
  refine l_append EI S134 1 rfl rfl rfl rfl (vec_rd (S134.at 3 rfl)) Tryz.underlying52 info3 rfl rfl rfl (by have := hR.ol; unfold maxLen; rw [List.length_singleton]; omega) (by have := hR.ol; rw [List.length_singleton]; show _ * 8 ≤ _; omega) ?_
  intro v140 w137 S138 hk139 hv141
  refine l_a rfl ?_
  refine l_nil ?_
  refine r_inBlock ?_
  refine r_region ?_
  refine l_m rfl ?_
  refine l_x rfl (x_add rfl rfl (by omega)) ?_
  refine l_a rfl ?_
  refine l_nil ?_
  exact IH (i + 1, v140, ol ++ [0], vq, cq, true) _ _ (by dsimp only; omega) ⟨rfl, rfl, rfl, rfl, rfl, rfl, trivial⟩ ⟨by omega, hR.stay ha hm9, (fun _ => ⟨rfl, rfl⟩), (S138.take 3)⟩
 obtain rfl : i = found.length := by omega
 refine r_exit rfl ?_
 refine r_seq ?_
 refine r_region ?_
 refine l_m rfl ?_
 refine l_a rfl ?_
 refine l_a rfl ?_
 refine l_a rfl ?_
 refine l_nil ?_
 refine r_ret (rs := [.tmp 8, .tmp 9, .tmp 10]) [_, _, _] Tryz.func28 rfl ⟨rfl, rfl, rfl, trivial⟩ ?_
 exact .inr (.inr ⟨hb, hm0, _, rfl, by have h := S1.new 1 rfl; rw [hR.done] at h; exact h, S1.le⟩)

end Go.Proofs

namespace Go.Proofs
open Go Go.Vk Go.Vk.Flow

open Go.Vk.Mark
open Go.Vk.Deed (i64 rng rng_iff owners sumI sumI_cons sumI_snoc)

def crE (b : Sm) (day : Int) (found : List Sg) (cq : List Clm) (i : Nat) : Int := match found[i]?, (assignS (fs b day found) cq)[i]? with
 | some t, some x => if othR b day found cq i t x cq.length = true then 0 else x
 | _, _ => 0
theorem cr_at {b : Sm} {day : Int} {found : List Sg} {cq : List Clm} {i : Nat} {t : Sg} {x : Int} (ht : found[i]? = some t) (hx : (assignS (fs b day found) cq)[i]? = some x) : crE b day found cq i = if othR b day found cq i t x cq.length = true then 0 else x := by
 unfold crE; rw [ht, hx]
structure CrI (b : Sm) (day : Int) (found : List Sg) (cq : List Clm) (i : Nat) (ol : List Int) : Prop where
 len : ol.length = found.length
 old : ∀ q, q < i → ol[q]? = some (crE b day found cq q)
 new : ∀ q, i ≤ q → q < found.length → ol[q]? = some 0
theorem CrI.keep {b : Sm} {day : Int} {found : List Sg} {cq : List Clm} {i : Nat} {ol : List Int} (h : CrI b day found cq i ol) (hi : i < found.length) (he : crE b day found cq i = 0) : CrI b day found cq (i + 1) ol :=
 ⟨h.len, fun q hq => by
  rcases Nat.lt_or_ge q i with g | g
  ·exact h.old q g
  obtain rfl : q = i := by omega
  rw [he]; exact h.new q (Nat.le_refl _) hi, fun q h1 h2 => h.new q (by omega) h2⟩
theorem CrI.put {b : Sm} {day : Int} {found : List Sg} {cq : List Clm} {i : Nat} {ol : List Int} {x : Int} (h : CrI b day found cq i ol) (hi : i < found.length) (he : crE b day found cq i = x) : CrI b day found cq (i + 1) (ol.set i x) :=
 ⟨by rw [List.length_set]; exact h.len, fun q hq => by
  rcases Nat.lt_or_ge q i with g | g
  ·rw [List.getElem?_set, if_neg (by omega)]; exact h.old q g
  obtain rfl : q = i := by omega
  rw [List.getElem?_set_self (by rw [h.len]; exact hi), he], fun q h1 h2 => by rw [List.getElem?_set, if_neg (by omega)]; exact h.new q (by omega) h2⟩
theorem CrI.done {b : Sm} {day : Int} {found : List Sg} {cq : List Clm} {ol : List Int} (h : CrI b day found cq found.length ol) : ol = (List.range found.length).map (crE b day found cq) := by
 refine List.ext_getElem? fun q => ?_
 by_cases g : q < found.length
 ·rw [h.old q g]; simp [g]
 rw [List.getElem?_eq_none (by rw [h.len]; omega), List.getElem?_eq_none (by simp; omega)]
theorem assignS_len : ∀ (F : Fs) (cs : List Clm), (assignS F cs).length = F.length
 | [], _ => rfl
 | f :: F, cs => by
  show (_ :: assignS F _).length = _
  rw [List.length_cons, List.length_cons, assignS_len F]

set_option maxHeartbeats 8000000 in
theorem c_rCertain (b : Sm) (vm vf : Value) (day : Int) (found : List Sg) (vs : Value) (cq : List Clm) (vq : Value) (hm : found.length ≤ 9223372036854775807) (hmc : cq.length ≤ 9223372036854775807) (w : World) (hB : SmR 39 41 w vm vf b) (hF : Rd ESG w vs found) (hC : Rd ECL w vq cq) :
  Cl Tryz.prog 50 #[.agg #[vm, vf], Value.int .i64 day, vs, vq] w fun v w' => (∃ e, e ≠ 0 ∧ v = .tuple #[.slice none 0 0, .int .i64 e] ∧ e = beginE b day true found cq ∧ Le w w') ∨ (beginE b day true found cq = 0 ∧ metB (fs b day found) cq = false ∧ v = .tuple #[.slice none 0 0, .int .i64 30] ∧ Le w w') ∨ (beginE b day true found cq = 0 ∧ metB (fs b day found) cq = true ∧ ∃ s, v = .tuple #[s, .int .i64 0] ∧ New w w' (vec EI s ((List.range found.length).map (crE b day found cq))) ∧ Le w w') := by
 refine fn_of_run (args := [_, _, _, _]) 114 Tryz.func50 rfl rfl rfl fun cs => ?_
 have S := Own.start (X := nob) w
 refine r_seq ?_
 refine r_region ?_
 refine l_box S rfl rfl ?_
 intro b4 w1 S2 hl3
 refine l_a rfl ?_
 refine l_a rfl ?_
 refine l_nil ?_
 refine r_seq ?_
 refine r_region ?_
 refine l_x rfl (x_load rfl (ld_blks (S2.blk 0 rfl) Tryz.isAgg25 Tryz.sizeOf25 rfl rfl)) ?_
 refine l_m rfl ?_
 refine l_m rfl ?_
 refine l_m rfl ?_
 refine l_call [] [] [_, _, _, _] rfl rfl Tryz.call28 rfl (c_rAssign b vm vf day found vs cq vq hm hmc _ (hB.le S2.le) (hF.le S2.le) (hC.le S2.le)) ?_
 rintro _ w5 (⟨e9, hne9, rfl, he9, hl245⟩ | ⟨hb9, hm9, rfl, hl245⟩ | ⟨hb9, hm9, y9, rfl, hN245, hl245⟩)
 ·skip
  have S6 := S2.step hl245
  refine l_m rfl ?_
  refine l_x rfl (x_extract rfl rfl) ?_
  refine l_x rfl (x_extract rfl rfl) ?_
  refine l_x rfl (x_extract rfl rfl) ?_
  refine l_a rfl ?_
  refine l_a rfl ?_
  refine l_a rfl ?_
  refine l_nil ?_
  refine r_seq ?_
  refine r_seq ?_
  refine r_region ?_
  refine l_m rfl ?_
  refine l_x rfl (x_neq rfl rfl) ?_
  refine l_nil ?_
  refine r_ifd rfl (fun hc29 => ?_) (fun hc29 => ?_)
  ·skip
   refine r_seq ?_
   refine r_region ?_
   refine l_m rfl ?_
   refine l_a rfl ?_
   refine l_a rfl ?_
   refine l_nil ?_
   refine r_ret (rs := [.tmp 8, .tmp 9]) [_, _] Tryz.func50 rfl ⟨rfl, rfl, trivial⟩ ?_
   exact .inl ⟨e9, hne9, rfl, he9, S6.le⟩
  exact absurd hne9 hc29
 ·skip
  have S7 := S2.step hl245
  refine l_m rfl ?_
  refine l_x rfl (x_extract rfl rfl) ?_
  refine l_x rfl (x_extract rfl rfl) ?_
  refine l_x rfl (x_extract rfl rfl) ?_
  refine l_a rfl ?_
  refine l_a rfl ?_
  refine l_a rfl ?_
  refine l_nil ?_
  refine r_seq ?_
  refine r_seq ?_
  refine r_region ?_
  refine l_m rfl ?_
  refine l_x rfl (x_neq rfl rfl) ?_
  refine l_nil ?_
  refine r_ifd rfl (fun hc29 => ?_) (fun hc29 => ?_)
  ·exact absurd rfl hc29
  refine r_skip ?_
  refine r_seq ?_
  refine r_seq ?_
  refine r_region ?_
  refine l_m rfl ?_
  refine l_x rfl (x_not rfl) ?_
  refine l_nil ?_
  refine r_true rfl ?_
  refine r_seq ?_
  refine r_region ?_
  refine l_a rfl ?_
  refine l_a rfl ?_
  refine l_nil ?_
  refine r_ret (rs := [.tmp 8, .tmp 9]) [_, _] Tryz.func50 rfl ⟨rfl, rfl, trivial⟩ ?_
  exact .inr (.inl ⟨hb9, hm9, rfl, S7.le⟩)
 have S8 := S2.add hl245 hN245
 have hf60 := bench_len hb9
 have hcl := (claim_ok (begin_parts hb9).2.2).1
 have hcbd := begin_bd hb9
 have hal : (assignS (fs b day found) cq).length = found.length := by rw [assignS_len]; simp [fs]
 refine l_m rfl ?_
 refine l_x rfl (x_extract rfl rfl) ?_
 refine l_x rfl (x_extract rfl rfl) ?_
 refine l_x rfl (x_extract rfl rfl) ?_
 refine l_a rfl ?_
 refine l_a rfl ?_
 refine l_a rfl ?_
 refine l_nil ?_
 refine r_seq ?_
 refine r_seq ?_
 refine r_region ?_
 refine l_m rfl ?_
 refine l_x rfl (x_neq rfl rfl) ?_
 refine l_nil ?_
 refine r_ifd rfl (fun hc29 => ?_) (fun hc29 => ?_)
 ·exact absurd rfl hc29
 refine r_skip ?_
 refine r_seq ?_
 refine r_seq ?_
 refine r_region ?_
 refine l_m rfl ?_
 refine l_x rfl (x_not rfl) ?_
 refine l_nil ?_
 refine r_false rfl ?_
 refine r_skip ?_
 refine r_seq ?_
 refine r_region ?_
 refine l_m rfl ?_
 refine l_x rfl (x_len (hF.le S8.le) rfl Tryz.runUnderlying50) ?_
 refine l_make EI 0 S8 rfl Tryz.runUnderlying52 Tryz.sizeOf3 Tryz.typeInfo3 Tryz.zeroValue3 rfl rfl rfl rfl (Nat.le_refl _) (by unfold maxLen; omega) (by show _ * 8 ≤ _; omega) ?_
 intro v12 w9 hv13 S10 hl11
 refine l_a rfl ?_
 refine l_nil ?_
 refine r_seq ?_
 refine r_seq ?_
 refine r_region ?_
 refine l_a rfl ?_
 refine l_nil ?_
 refine r_block ?_
 refine r_loop (G := Nat × List Int) (fun ⟨i, ol⟩ => found.length - i) (fun ⟨i, ol⟩ => [(1, Value.int .i64 day), (2, vs), (3, vq), (4, .pointer (some ⟨b4, 0, none⟩)), (10, y9), (13, v12), (14, Value.int .i64 i)]) (fun ⟨i, ol⟩ w' => (i ≤ found.length) ∧ (CrI b day found cq i ol) ∧ Own nob w w' [blk b4 [vm, vf] 25, vec EI y9 (assignS (fs b day found) cq), vec EI v12 ol]) (0, List.replicate found.length 0) ⟨rfl, rfl, rfl, rfl, rfl, rfl, rfl, trivial⟩ ⟨Nat.zero_le _, ⟨by simp, fun q h => absurd h (Nat.not_lt_zero q), fun q h1 h2 => by simp [h2]⟩, (S10.pick [0, 1, 2] (by decide) rfl)⟩ ?_
 rintro ⟨i, ol⟩ ρ w1 ⟨hi, hI, S1⟩ IH
 refine r_seq ?_
 refine r_seq ?_
 refine r_region ?_
 refine l_m rfl ?_
 refine l_m rfl ?_
 refine l_x rfl (x_len (hF.le S1.le) rfl Tryz.runUnderlying50) ?_
 refine l_x rfl (x_lss rfl rfl) ?_
 refine l_nil ?_
 refine r_ifd rfl (fun hc39 => ?_) (fun hc39 => ?_)
 ·skip
  obtain ⟨t, ht⟩ : ∃ t, found[i]? = some t := ⟨_, List.getElem?_eq_getElem (by omega)⟩
  obtain ⟨x, hx⟩ : ∃ x, (assignS (fs b day found) cq)[i]? = some x := ⟨_, List.getElem?_eq_getElem (by omega)⟩
  have hce := cr_at ht hx
  refine r_skip ?_
  refine r_seq ?_
  refine r_block ?_
  refine r_seq ?_
  refine r_drawE 9 (yng w1) Tryz.mixed (by kernel_rfl) ?_
  intro w14 hl15
  have S16 := S1.step hl15
  have hy17 : Keep (yng w1) w1 w14 := .of_le hl15
  refine e_exact 1 _ (by kernel_rfl) rfl rfl (by kernel_rfl) rfl (ex_x rfl (fun w1 h1 => x_mv rfl)) ?_
  refine e_exact 2 _ (by kernel_rfl) rfl rfl (by kernel_rfl) rfl (ex_x rfl (fun w1 h1 => x_mv rfl)) ?_
  refine e_headF 3 (by kernel_rfl) rfl rfl (by kernel_rfl) rfl rfl (hF.le S16.le) rfl rfl Tryz.runUnderlying50 Tryz.sizeOf30 (by omega) ?_
  intro v18 ht19
  refine e_exact 5 _ (by kernel_rfl) rfl rfl (by kernel_rfl) rfl (ex_x rfl (fun w1 h1 => x_mv rfl)) ?_
  refine e_exact 6 _ (by kernel_rfl) rfl rfl (by kernel_rfl) rfl (ex_x rfl (fun w1 h1 => x_mv rfl)) ?_
  refine e_exact 7 _ (by kernel_rfl) rfl rfl (by kernel_rfl) rfl (ex_x rfl (fun w1 h1 => x_add rfl rfl (by omega))) ?_
  refine e_tailR 8 (by kernel_rfl) rfl rfl (by kernel_rfl) rfl rfl (hF.le S16.le) rfl rfl Tryz.runUnderlying50 Tryz.sizeOf30 (by omega) ?_
  intro v20 ht21
  refine e_next [0] (by kernel_rfl) (by kernel_rfl) ⟨⟨_, _, rfl, rfl, ?_⟩, trivial⟩
  refine s_buildSlice ESG [] (Own.start (X := nob) w14) rfl Tryz.runUnderlying50 Tryz.sizeOf30 Tryz.zeroValue30 rfl trivial (by decide) ?_
  intro v26 w22 S23 hl25
  have hn27 := S23.new 0 rfl
  have S24 := S16.add hl25 hn27
  refine ⟨.of_le hl25, ?_⟩
  have hyb28 : ∀ c, (vec ESG v26 []).fp c → yng w1 c := fun c hc => Nat.le_trans hy17.size (hn27.bd c hc).1
  have hy29 : Keep (yng w1) w1 w22 := hy17.trans (Keep.of_le hl25)
  refine e_next [4] (by kernel_rfl) (by kernel_rfl) ⟨⟨_, _, rfl, rfl, ?_⟩, trivial⟩
  refine s_append ESG (S24.lend 3 rfl) 0 rfl rfl rfl rfl (ht19 _ (hF.le S24.le)) Tryz.underlying50 info30 rfl rfl rfl (by unfold maxLen; simp; omega) (by simp; show _ * 6 ≤ _; omega) ?_
  intro v34 w30 S31 hk33 hv35
  have S32 := S24.back 3 rfl S31
  have hyb36 : ∀ c, (vec ESG v34 []).fp c → yng w1 c := fun c hc => (S31.bd 0 _ rfl c hc).2.elim (fun h => Nat.le_trans hy29.size h) (hyb28 c)
  refine ⟨hk33.mono fun c _ hc => hyb28 c hc, ?_⟩
  have hy37 : Keep (yng w1) w1 w30 := hy29.trans (hk33.mono fun c _ hc => hyb28 c hc)
  refine e_done (by kernel_rfl) ?_
  refine l_append ESG S32 3 rfl rfl rfl rfl (tailR_rd ht21 (hF.le S32.le)) Tryz.underlying50 info30 rfl rfl rfl (by unfold maxLen; simp; omega) (by simp; show _ * 6 ≤ _; omega) ?_
  intro v41 w38 S39 hk40 hv42
  refine l_a rfl ?_
  refine l_nil ?_
  refine r_seq ?_
  refine r_region ?_
  refine l_x rfl (x_load rfl (ld_blks (S39.blk 0 rfl) Tryz.isAgg25 Tryz.sizeOf25 rfl rfl)) ?_
  refine l_m rfl ?_
  refine l_m rfl ?_
  refine l_m rfl ?_
  refine l_call [] [] [_, _, _, _] rfl rfl Tryz.call95 rfl (c_rmet b vm vf day (found.take i ++ found.drop (i + 1)) _ cq vq (by simp; omega) hcl hcbd _ (hB.le S39.le) (vec_rd (S39.at 3 rfl)) (hC.le S39.le)) ?_
  rintro _ w43 ⟨rfl, hl45⟩
  have S44 := S39.step hl45
  refine l_a rfl ?_
  refine l_nil ?_
  refine r_seq ?_
  refine r_seq ?_
  refine r_region ?_
  refine l_a rfl ?_
  refine l_nil ?_
  refine r_block ?_
  refine r_loop (G := Nat) (fun k => cq.length - k) (fun k => [(1, Value.int .i64 day), (2, vs), (3, vq), (4, .pointer (some ⟨b4, 0, none⟩)), (10, y9), (13, v12), (14, Value.int .i64 i), (15, v41), (16, .bool (othR b day found cq i t x k)), (17, Value.int .i64 k)]) (fun k w' => (k ≤ cq.length) ∧ Own nob w w' [blk b4 [vm, vf] 25, vec EI y9 (assignS (fs b day found) cq), vec EI v12 ol, vec ESG v41 (found.take i ++ found.drop (i + 1))]) 0 ⟨rfl, rfl, rfl, rfl, rfl, rfl, rfl, rfl, (congrArg Value.bool oth_zero.symm), rfl, trivial⟩ ⟨Nat.zero_le _, (S44.pick [0, 1, 2, 3] (by decide) rfl)⟩ ?_
  rintro k ρ w1b ⟨hk, S1b⟩ IHb
  refine r_seq ?_
  refine r_seq ?_
  refine r_region ?_
  refine l_m rfl ?_
  refine l_m rfl ?_
  refine l_x rfl (x_len (hC.le S1b.le) rfl Tryz.runUnderlying51) ?_
  refine l_x rfl (x_lss rfl rfl) ?_
  refine l_nil ?_
  refine r_ifd rfl (fun hc60 => ?_) (fun hc60 => ?_)
  ·skip
   obtain ⟨c, hc⟩ : ∃ c, cq[k]? = some c := ⟨_, List.getElem?_eq_getElem (by omega)⟩
   refine r_skip ?_
   refine r_seq ?_
   refine r_block ?_
   refine r_seq ?_
   refine r_region ?_
   refine l_m rfl ?_
   refine l_m rfl ?_
   refine l_index ECL rfl (hC.le S1b.le) rfl rfl Tryz.runUnderlying51 Tryz.sizeOf83 (by omega) hc ?_
   intro b46 o47 hat48 row49
   refine l_x rfl (x_fieldAddr rfl Tryz.runUnderlying83 rfl Tryz.sizeOf3 (by decide)) ?_
   refine l_x rfl (x_load rfl (ld_cell Tryz.isAgg3 (row49 0 _ rfl))) ?_
   refine l_a rfl ?_
   refine l_nil ?_
   refine r_drawE 37 nob Tryz.mixed (by kernel_rfl) ?_
   intro w50 hl51
   have S52 := S1b.step hl51
   refine e_exact 0 _ (by kernel_rfl) rfl rfl (by kernel_rfl) rfl (ex_x rfl (fun w1 h1 => x_mv rfl)) ?_
   refine e_exact 1 _ (by kernel_rfl) rfl rfl (by kernel_rfl) rfl (ex_x rfl (fun w1 h1 => x_mv rfl)) ?_
   refine e_split (d := 69) rfl (fun hg69 => ?_) (fun hg69 => ?_)
   ·skip
    refine e_exact 2 _ (by kernel_rfl) rfl rfl (by kernel_rfl) rfl (ex_pass rfl) ?_
    refine e_exact 3 _ (by kernel_rfl) rfl rfl (by kernel_rfl) rfl (ex_pass rfl) ?_
    refine e_exact 4 _ (by kernel_rfl) rfl rfl (by kernel_rfl) rfl (ex_pass rfl) ?_
    refine e_exact 5 _ (by kernel_rfl) rfl rfl (by kernel_rfl) rfl (ex_pass rfl) ?_
    refine e_exact 6 _ (by kernel_rfl) rfl rfl (by kernel_rfl) rfl (ex_pass rfl) ?_
    refine e_exact 7 _ (by kernel_rfl) rfl rfl (by kernel_rfl) rfl (ex_pass rfl) ?_
    refine e_exact 8 _ (by kernel_rfl) rfl rfl (by kernel_rfl) rfl (ex_pass rfl) ?_
    refine e_exact 9 _ (by kernel_rfl) rfl rfl (by kernel_rfl) rfl (ex_pass rfl) ?_
    refine e_exact 10 _ (by kernel_rfl) rfl rfl (by kernel_rfl) rfl (ex_pass rfl) ?_
    refine e_exact 11 _ (by kernel_rfl) rfl rfl (by kernel_rfl) rfl (ex_pass rfl) ?_
    refine e_exact 12 _ (by kernel_rfl) rfl rfl (by kernel_rfl) rfl (ex_pass rfl) ?_
    refine e_exact 13 _ (by kernel_rfl) rfl rfl (by kernel_rfl) rfl (ex_pass rfl) ?_
    refine e_exact 14 _ (by kernel_rfl) rfl rfl (by kernel_rfl) rfl (ex_pass rfl) ?_
    refine e_exact 15 _ (by kernel_rfl) rfl rfl (by kernel_rfl) rfl (ex_pass rfl) ?_
    refine e_exact 16 _ (by kernel_rfl) rfl rfl (by kernel_rfl) rfl (ex_pass rfl) ?_
    refine e_exact 17 _ (by kernel_rfl) rfl rfl (by kernel_rfl) rfl (ex_pass rfl) ?_
    refine e_exact 18 _ (by kernel_rfl) rfl rfl (by kernel_rfl) rfl (ex_pass rfl) ?_
    refine e_exact 19 _ (by kernel_rfl) rfl rfl (by kernel_rfl) rfl (ex_pass rfl) ?_
    refine e_exact 20 _ (by kernel_rfl) rfl rfl (by kernel_rfl) rfl (ex_pass rfl) ?_
    refine e_exact 21 _ (by kernel_rfl) rfl rfl (by kernel_rfl) rfl (ex_pass rfl) ?_
    refine e_exact 22 _ (by kernel_rfl) rfl rfl (by kernel_rfl) rfl (ex_pass rfl) ?_
    refine e_exact 23 _ (by kernel_rfl) rfl rfl (by kernel_rfl) rfl (ex_pass rfl) ?_
    refine e_exact 24 _ (by kernel_rfl) rfl rfl (by kernel_rfl) rfl (ex_pass rfl) ?_
    refine e_exact 25 _ (by kernel_rfl) rfl rfl (by kernel_rfl) rfl (ex_pass rfl) ?_
    refine e_exact 26 _ (by kernel_rfl) rfl rfl (by kernel_rfl) rfl (ex_pass rfl) ?_
    refine e_exact 27 _ (by kernel_rfl) rfl rfl (by kernel_rfl) rfl (ex_pass rfl) ?_
    refine e_exact 28 _ (by kernel_rfl) rfl rfl (by kernel_rfl) rfl (ex_pass rfl) ?_
    refine e_exact 29 _ (by kernel_rfl) rfl rfl (by kernel_rfl) rfl (ex_pass rfl) ?_
    refine e_exact 30 _ (by kernel_rfl) rfl rfl (by kernel_rfl) rfl (ex_pass rfl) ?_
    refine e_exact 31 _ (by kernel_rfl) rfl rfl (by kernel_rfl) rfl (ex_pass rfl) ?_
    refine e_exact 32 _ (by kernel_rfl) rfl rfl (by kernel_rfl) rfl (ex_pass rfl) ?_
    refine e_exact 33 _ (by kernel_rfl) rfl rfl (by kernel_rfl) rfl (ex_pass rfl) ?_
    refine e_exact 34 _ (by kernel_rfl) rfl rfl (by kernel_rfl) rfl (ex_pass rfl) ?_
    refine e_exact 35 _ (by kernel_rfl) rfl rfl (by kernel_rfl) rfl (ex_x rfl (fun w1 h1 => x_pick_t rfl rfl)) ?_
    refine e_exact 36 _ (by kernel_rfl) rfl rfl (by kernel_rfl) rfl (ex_x rfl (fun w1 h1 => x_as rfl)) ?_
    refine e_done (by kernel_rfl) ?_
    refine l_nil ?_
    refine r_inBlock ?_
    refine r_region ?_
    refine l_m rfl ?_
    refine l_x rfl (x_add rfl rfl (by omega)) ?_
    refine l_a rfl ?_
    refine l_nil ?_
    exact IHb (k + 1) _ _ (by omega) ⟨rfl, rfl, rfl, rfl, rfl, rfl, rfl, rfl, (congrArg Value.bool (by rw [oth_succ hc]; simp_all <;> (intro h9; omega))), rfl, trivial⟩ ⟨by omega, (S52.take 4)⟩
   refine e_exact 2 _ (by kernel_rfl) rfl rfl (by kernel_rfl) rfl (ex_x rfl (fun w1 h1 => x_mv rfl)) ?_
   refine e_exact 3 _ (by kernel_rfl) rfl rfl (by kernel_rfl) rfl (ex_x rfl (fun w1 h1 => x_mv rfl)) ?_
   refine e_exact 4 _ (by kernel_rfl) rfl rfl (by kernel_rfl) rfl (ex_x rfl (fun w1 h1 => x_mv rfl)) ?_
   refine e_index EI 5 (by kernel_rfl) rfl rfl (by kernel_rfl) rfl rfl (vec_rd (S52.at 1 rfl)) rfl rfl Tryz.runUnderlying52 Tryz.sizeOf3 (by omega) hx ?_
   intro b53 o54 hat55
   refine e_exact 6 _ (by kernel_rfl) rfl rfl (by kernel_rfl) rfl (ex_x rfl (fun w1 h1 => x_load rfl (ld_cell Tryz.isAgg3 ((rd_row (vec_rd ((S52.step h1).at 1 rfl)) hat55 hx) 0 _ rfl)))) ?_
   refine e_exact 7 _ (by kernel_rfl) rfl rfl (by kernel_rfl) rfl (ex_x rfl (fun w1 h1 => x_neq rfl rfl)) ?_
   refine e_exact 8 _ (by kernel_rfl) rfl rfl (by kernel_rfl) rfl (ex_x rfl (fun w1 h1 => x_mv rfl)) ?_
   refine e_splitd (d := 76) rfl (fun hg76 => ?_) (fun hg76 => ?_)
   ·skip
    refine e_exact 9 _ (by kernel_rfl) rfl rfl (by kernel_rfl) rfl (ex_x rfl (fun w1 h1 => x_mv rfl)) ?_
    refine e_exact 10 _ (by kernel_rfl) rfl rfl (by kernel_rfl) rfl (ex_x rfl (fun w1 h1 => x_mv rfl)) ?_
    refine e_index ECL 11 (by kernel_rfl) rfl rfl (by kernel_rfl) rfl rfl (hC.le S52.le) rfl rfl Tryz.runUnderlying51 Tryz.sizeOf83 (by omega) hc ?_
    intro b56 o57 hat58
    refine e_exact 12 _ (by kernel_rfl) rfl rfl (by kernel_rfl) rfl (ex_x rfl (fun w1 h1 => x_fieldAddr rfl Tryz.runUnderlying83 rfl Tryz.sizeOf3 (by decide))) ?_
    refine e_exact 13 _ (by kernel_rfl) rfl rfl (by kernel_rfl) rfl (ex_x rfl (fun w1 h1 => x_load rfl (ld_cell Tryz.isAgg3 ((rd_row (hC.le (S52.step h1).le) hat58 hc) 1 _ rfl)))) ?_
    refine e_exact 14 _ (by kernel_rfl) rfl rfl (by kernel_rfl) rfl (ex_x rfl (fun w1 h1 => x_gtr rfl rfl)) ?_
    refine e_exact 15 _ (by kernel_rfl) rfl rfl (by kernel_rfl) rfl (ex_x rfl (fun w1 h1 => x_pick_t rfl rfl)) ?_
    refine e_exact 16 _ (by kernel_rfl) rfl rfl (by kernel_rfl) rfl (ex_x rfl (fun w1 h1 => x_mv rfl)) ?_
    refine e_splitd (d := 84) rfl (fun hg84 => ?_) (fun hg84 => ?_)
    ·skip
     refine e_exact 17 _ (by kernel_rfl) rfl rfl (by kernel_rfl) rfl (ex_x rfl (fun w1 h1 => x_load rfl (ld_blks ((S52.step h1).blk 0 rfl) Tryz.isAgg25 Tryz.sizeOf25 rfl rfl))) ?_
     refine e_exact 18 _ (by kernel_rfl) rfl rfl (by kernel_rfl) rfl (ex_x rfl (fun w1 h1 => x_mv rfl)) ?_
     refine e_exact 19 _ (by kernel_rfl) rfl rfl (by kernel_rfl) rfl (ex_x rfl (fun w1 h1 => x_mv rfl)) ?_
     refine e_exact 20 _ (by kernel_rfl) rfl rfl (by kernel_rfl) rfl (ex_x rfl (fun w1 h1 => x_mv rfl)) ?_
     refine e_index ESG 21 (by kernel_rfl) rfl rfl (by kernel_rfl) rfl rfl (hF.le S52.le) rfl rfl Tryz.runUnderlying50 Tryz.sizeOf30 (by omega) ht ?_
     intro b59 o60 hat61
     refine e_exact 22 _ (by kernel_rfl) rfl rfl (by kernel_rfl) rfl (ex_x rfl (fun w1 h1 => x_load rfl (ld_row Tryz.isAgg30 Tryz.sizeOf30 rfl (rd_row (hF.le (S52.step h1).le) hat61 ht)))) ?_
     refine e_exact 23 _ (by kernel_rfl) rfl rfl (by kernel_rfl) rfl (ex_x rfl (fun w1 h1 => x_mv rfl)) ?_
     refine e_next [24] (by kernel_rfl) (by kernel_rfl) ⟨⟨_, _, rfl, rfl, ?_⟩, trivial⟩
     refine s_callf [] [] [_, _, _, _] rfl rfl Tryz.call97 rfl ((c_rfits b vm vf day c.owner t _ (hB.le S52.le)).mono ?_)
     rintro _ w62 ⟨rfl, hl64⟩
     have S63 := S52.step hl64
     refine ⟨.of_le hl64, ?_⟩
     refine e_exact 25 _ (by kernel_rfl) rfl rfl (by kernel_rfl) rfl (ex_x rfl (fun w1 h1 => x_pick_t rfl rfl)) ?_
     refine e_exact 26 _ (by kernel_rfl) rfl rfl (by kernel_rfl) rfl (ex_x rfl (fun w1 h1 => x_mv rfl)) ?_
     refine e_split (d := 94) rfl (fun hg94 => ?_) (fun hg94 => ?_)
     ·skip
      refine e_exact 27 _ (by kernel_rfl) rfl rfl (by kernel_rfl) rfl (ex_x rfl (fun w1 h1 => x_load rfl (ld_blks ((S63.step h1).blk 0 rfl) Tryz.isAgg25 Tryz.sizeOf25 rfl rfl))) ?_
      refine e_exact 28 _ (by kernel_rfl) rfl rfl (by kernel_rfl) rfl (ex_x rfl (fun w1 h1 => x_mv rfl)) ?_
      refine e_exact 29 _ (by kernel_rfl) rfl rfl (by kernel_rfl) rfl (ex_x rfl (fun w1 h1 => x_mv rfl)) ?_
      refine e_exact 30 _ (by kernel_rfl) rfl rfl (by kernel_rfl) rfl (ex_x rfl (fun w1 h1 => x_mv rfl)) ?_
      refine e_exact 31 _ (by kernel_rfl) rfl rfl (by kernel_rfl) rfl (ex_x rfl (fun w1 h1 => x_mv rfl)) ?_
      refine e_next [32] (by kernel_rfl) (by kernel_rfl) ⟨⟨_, _, rfl, rfl, ?_⟩, trivial⟩
      refine s_callf [] [] [_, _] rfl rfl Tryz.call98 rfl ((c_rless cq vq hcl k c hc (by have := hcbd c (List.mem_of_getElem? hc); omega) _ (hC.le S63.le)).mono ?_)
      rintro v10065 w65 ⟨hN10065, hl10065⟩
      have S66 := S63.add hl10065 hN10065
      refine ⟨.of_le hl10065, ?_⟩
      refine e_next [33] (by kernel_rfl) (by kernel_rfl) ⟨⟨_, _, rfl, rfl, ?_⟩, trivial⟩
      refine s_callf [] [] [_, _, _, _] rfl rfl Tryz.call95 rfl ((c_rmet b vm vf day (found.take i ++ found.drop (i + 1)) _ (giveC cq k 1) _ (by simp; omega) (by rw [giveC_len]; exact hcl) (giveC_bd hc (by omega) hcbd) _ (hB.le S66.le) (vec_rd (S66.at 3 rfl)) (vec_rd (S66.at 4 rfl))).mono ?_)
      rintro _ w67 ⟨rfl, hl69⟩
      have S68 := S66.step hl69
      refine ⟨.of_le hl69, ?_⟩
      refine e_exact 34 _ (by kernel_rfl) rfl rfl (by kernel_rfl) rfl (ex_x rfl (fun w1 h1 => x_pick_t rfl rfl)) ?_
      refine e_exact 35 _ (by kernel_rfl) rfl rfl (by kernel_rfl) rfl (ex_x rfl (fun w1 h1 => x_pick_f rfl rfl)) ?_
      refine e_exact 36 _ (by kernel_rfl) rfl rfl (by kernel_rfl) rfl (ex_x rfl (fun w1 h1 => x_as rfl)) ?_
      refine e_done (by kernel_rfl) ?_
      refine l_nil ?_
      refine r_inBlock ?_
      refine r_region ?_
      refine l_m rfl ?_
      refine l_x rfl (x_add rfl rfl (by omega)) ?_
      refine l_a rfl ?_
      refine l_nil ?_
      exact IHb (k + 1) _ _ (by omega) ⟨rfl, rfl, rfl, rfl, rfl, rfl, rfl, rfl, (congrArg Value.bool (by rw [oth_succ hc]; simp_all <;> (intro h9; omega))), rfl, trivial⟩ ⟨by omega, (S68.take 4)⟩
     refine e_exact 27 _ (by kernel_rfl) rfl rfl (by kernel_rfl) rfl (ex_pass rfl) ?_
     refine e_exact 28 _ (by kernel_rfl) rfl rfl (by kernel_rfl) rfl (ex_pass rfl) ?_
     refine e_exact 29 _ (by kernel_rfl) rfl rfl (by kernel_rfl) rfl (ex_pass rfl) ?_
     refine e_exact 30 _ (by kernel_rfl) rfl rfl (by kernel_rfl) rfl (ex_pass rfl) ?_
     refine e_exact 31 _ (by kernel_rfl) rfl rfl (by kernel_rfl) rfl (ex_pass rfl) ?_
     refine e_exact 32 _ (by kernel_rfl) rfl rfl (by kernel_rfl) rfl (ex_pass rfl) ?_
     refine e_exact 33 _ (by kernel_rfl) rfl rfl (by kernel_rfl) rfl (ex_pass rfl) ?_
     refine e_exact 34 _ (by kernel_rfl) rfl rfl (by kernel_rfl) rfl (ex_x rfl (fun w1 h1 => x_pick_f rfl rfl)) ?_
     refine e_exact 35 _ (by kernel_rfl) rfl rfl (by kernel_rfl) rfl (ex_x rfl (fun w1 h1 => x_pick_f rfl rfl)) ?_
     refine e_exact 36 _ (by kernel_rfl) rfl rfl (by kernel_rfl) rfl (ex_x rfl (fun w1 h1 => x_as rfl)) ?_
     refine e_done (by kernel_rfl) ?_
     refine l_nil ?_
     refine r_inBlock ?_
     refine r_region ?_
     refine l_m rfl ?_
     refine l_x rfl (x_add rfl rfl (by omega)) ?_
     refine l_a rfl ?_
     refine l_nil ?_
     exact IHb (k + 1) _ _ (by omega) ⟨rfl, rfl, rfl, rfl, rfl, rfl, rfl, rfl, (congrArg Value.bool (by rw [oth_succ hc]; simp_all <;> (intro h9; omega))), rfl, trivial⟩ ⟨by omega, (S63.take 4)⟩
    refine e_exact 17 _ (by kernel_rfl) rfl rfl (by kernel_rfl) rfl (ex_pass rfl) ?_
    refine e_exact 18 _ (by kernel_rfl) rfl rfl (by kernel_rfl) rfl (ex_pass rfl) ?_
    refine e_exact 19 _ (by kernel_rfl) rfl rfl (by kernel_rfl) rfl (ex_pass rfl) ?_
    refine e_exact 20 _ (by kernel_rfl) rfl rfl (by kernel_rfl) rfl (ex_pass rfl) ?_
    refine e_exact 21 _ (by kernel_rfl) rfl rfl (by kernel_rfl) rfl (ex_pass rfl) ?_
    refine e_exact 22 _ (by kernel_rfl) rfl rfl (by kernel_rfl) rfl (ex_pass rfl) ?_
    refine e_exact 23 _ (by kernel_rfl) rfl rfl (by kernel_rfl) rfl (ex_pass rfl) ?_
    refine e_exact 24 _ (by kernel_rfl) rfl rfl (by kernel_rfl) rfl (ex_pass rfl) ?_
    refine e_exact 25 _ (by kernel_rfl) rfl rfl (by kernel_rfl) rfl (ex_x rfl (fun w1 h1 => x_pick_f rfl rfl)) ?_
    refine e_exact 26 _ (by kernel_rfl) rfl rfl (by kernel_rfl) rfl (ex_x rfl (fun w1 h1 => x_mv rfl)) ?_
    refine e_exact 27 _ (by kernel_rfl) rfl rfl (by kernel_rfl) rfl (ex_pass rfl) ?_
    refine e_exact 28 _ (by kernel_rfl) rfl rfl (by kernel_rfl) rfl (ex_pass rfl) ?_
    refine e_exact 29 _ (by kernel_rfl) rfl rfl (by kernel_rfl) rfl (ex_pass rfl) ?_
    refine e_exact 30 _ (by kernel_rfl) rfl rfl (by kernel_rfl) rfl (ex_pass rfl) ?_
    refine e_exact 31 _ (by kernel_rfl) rfl rfl (by kernel_rfl) rfl (ex_pass rfl) ?_
    refine e_exact 32 _ (by kernel_rfl) rfl rfl (by kernel_rfl) rfl (ex_pass rfl) ?_
    refine e_exact 33 _ (by kernel_rfl) rfl rfl (by kernel_rfl) rfl (ex_pass rfl) ?_
    refine e_exact 34 _ (by kernel_rfl) rfl rfl (by kernel_rfl) rfl (ex_x rfl (fun w1 h1 => x_pick_f rfl rfl)) ?_
    refine e_exact 35 _ (by kernel_rfl) rfl rfl (by kernel_rfl) rfl (ex_x rfl (fun w1 h1 => x_pick_f rfl rfl)) ?_
    refine e_exact 36 _ (by kernel_rfl) rfl rfl (by kernel_rfl) rfl (ex_x rfl (fun w1 h1 => x_as rfl)) ?_
    refine e_done (by kernel_rfl) ?_
    refine l_nil ?_
    refine r_inBlock ?_
    refine r_region ?_
    refine l_m rfl ?_
    refine l_x rfl (x_add rfl rfl (by omega)) ?_
    refine l_a rfl ?_
    refine l_nil ?_
    exact IHb (k + 1) _ _ (by omega) ⟨rfl, rfl, rfl, rfl, rfl, rfl, rfl, rfl, (congrArg Value.bool (by rw [oth_succ hc]; simp_all <;> (intro h9; omega))), rfl, trivial⟩ ⟨by omega, (S52.take 4)⟩
   refine e_exact 9 _ (by kernel_rfl) rfl rfl (by kernel_rfl) rfl (ex_pass rfl) ?_
   refine e_exact 10 _ (by kernel_rfl) rfl rfl (by kernel_rfl) rfl (ex_pass rfl) ?_
   refine e_exact 11 _ (by kernel_rfl) rfl rfl (by kernel_rfl) rfl (ex_pass rfl) ?_
   refine e_exact 12 _ (by kernel_rfl) rfl rfl (by kernel_rfl) rfl (ex_pass rfl) ?_
   refine e_exact 13 _ (by kernel_rfl) rfl rfl (by kernel_rfl) rfl (ex_pass rfl) ?_
   refine e_exact 14 _ (by kernel_rfl) rfl rfl (by kernel_rfl) rfl (ex_pass rfl) ?_
   refine e_exact 15 _ (by kernel_rfl) rfl rfl (by kernel_rfl) rfl (ex_x rfl (fun w1 h1 => x_pick_f rfl rfl)) ?_
   refine e_exact 16 _ (by kernel_rfl) rfl rfl (by kernel_rfl) rfl (ex_x rfl (fun w1 h1 => x_mv rfl)) ?_
   refine e_exact 17 _ (by kernel_rfl) rfl rfl (by kernel_rfl) rfl (ex_pass rfl) ?_
   refine e_exact 18 _ (by kernel_rfl) rfl rfl (by kernel_rfl) rfl (ex_pass rfl) ?_
   refine e_exact 19 _ (by kernel_rfl) rfl rfl (by kernel_rfl) rfl (ex_pass rfl) ?_
   refine e_exact 20 _ (by kernel_rfl) rfl rfl (by kernel_rfl) rfl (ex_pass rfl) ?_
   refine e_exact 21 _ (by kernel_rfl) rfl rfl (by kernel_rfl) rfl (ex_pass rfl) ?_
   refine e_exact 22 _ (by kernel_rfl) rfl rfl (by kernel_rfl) rfl (ex_pass rfl) ?_
   refine e_exact 23 _ (by kernel_rfl) rfl rfl (by kernel_rfl) rfl (ex_pass rfl) ?_
   refine e_exact 24 _ (by kernel_rfl) rfl rfl (by kernel_rfl) rfl (ex_pass rfl) ?_
   refine e_exact 25 _ (by kernel_rfl) rfl rfl (by kernel_rfl) rfl (ex_x rfl (fun w1 h1 => x_pick_f rfl rfl)) ?_
   refine e_exact 26 _ (by kernel_rfl) rfl rfl (by kernel_rfl) rfl (ex_x rfl (fun w1 h1 => x_mv rfl)) ?_
   refine e_exact 27 _ (by kernel_rfl) rfl rfl (by kernel_rfl) rfl (ex_pass rfl) ?_
   refine e_exact 28 _ (by kernel_rfl) rfl rfl (by kernel_rfl) rfl (ex_pass rfl) ?_
   refine e_exact 29 _ (by kernel_rfl) rfl rfl (by kernel_rfl) rfl (ex_pass rfl) ?_
   refine e_exact 30 _ (by kernel_rfl) rfl rfl (by kernel_rfl) rfl (ex_pass rfl) ?_
   refine e_exact 31 _ (by kernel_rfl) rfl rfl (by kernel_rfl) rfl (ex_pass rfl) ?_
   refine e_exact 32 _ (by kernel_rfl) rfl rfl (by kernel_rfl) rfl (ex_pass rfl) ?_
   refine e_exact 33 _ (by kernel_rfl) rfl rfl (by kernel_rfl) rfl (ex_pass rfl) ?_
   refine e_exact 34 _ (by kernel_rfl) rfl rfl (by kernel_rfl) rfl (ex_x rfl (fun w1 h1 => x_pick_f rfl rfl)) ?_
   refine e_exact 35 _ (by kernel_rfl) rfl rfl (by kernel_rfl) rfl (ex_x rfl (fun w1 h1 => x_pick_f rfl rfl)) ?_
   refine e_exact 36 _ (by kernel_rfl) rfl rfl (by kernel_rfl) rfl (ex_x rfl (fun w1 h1 => x_as rfl)) ?_
   refine e_done (by kernel_rfl) ?_
   refine l_nil ?_
   refine r_inBlock ?_
   refine r_region ?_
   refine l_m rfl ?_
   refine l_x rfl (x_add rfl rfl (by omega)) ?_
   refine l_a rfl ?_
   refine l_nil ?_
   exact IHb (k + 1) _ _ (by omega) ⟨rfl, rfl, rfl, rfl, rfl, rfl, rfl, rfl, (congrArg Value.bool (by rw [oth_succ hc]; simp_all <;> (intro h9; omega))), rfl, trivial⟩ ⟨by omega, (S52.take 4)⟩
  obtain rfl : k = cq.length := by omega
  refine r_exit rfl ?_
  refine r_seq ?_
  refine r_region ?_
  refine l_m rfl ?_
  refine l_x rfl (x_not rfl) ?_
  refine l_nil ?_
  refine r_if rfl (fun hc105 => ?_) (fun hc105 => ?_)
  ·skip
   refine r_region ?_
   refine l_m rfl ?_
   refine l_m rfl ?_
   refine l_m rfl ?_
   refine l_m rfl ?_
   refine l_index EI rfl (vec_rd (S1b.at 1 rfl)) rfl rfl Tryz.runUnderlying52 Tryz.sizeOf3 (by omega) hx ?_
   intro b70 o71 hat72 row73
   refine l_x rfl (x_load rfl (ld_cell Tryz.isAgg3 (row73 0 _ rfl))) ?_
   refine l_index EI rfl (vec_rd (S1b.at 2 rfl)) rfl rfl Tryz.runUnderlying52 Tryz.sizeOf3 (by omega) (hI.new i (Nat.le_refl _) (by omega)) ?_
   intro b74 o75 hat76 row77
   refine l_storevi (a' := x) (f := 0) S1b 2 rfl rfl hat76 rfl rfl Tryz.sizeOf3 (hI.new i (Nat.le_refl _) (by omega)) (by decide) rfl ?_
   intro w78 S79 hk80
   refine l_nil ?_
   refine r_inBlock ?_
   refine r_region ?_
   refine l_m rfl ?_
   refine l_x rfl (x_add rfl rfl (by omega)) ?_
   refine l_a rfl ?_
   refine l_nil ?_
   exact IH (i + 1, ol.set i x) _ _ (by dsimp only; omega) ⟨rfl, rfl, rfl, rfl, rfl, rfl, rfl, trivial⟩ ⟨by omega, hI.put (by omega) (by rw [hce]; simp_all), (S79.take 3)⟩
  refine r_skip ?_
  refine r_inBlock ?_
  refine r_region ?_
  refine l_m rfl ?_
  refine l_x rfl (x_add rfl rfl (by omega)) ?_
  refine l_a rfl ?_
  refine l_nil ?_
  exact IH (i + 1, ol) _ _ (by dsimp only; omega) ⟨rfl, rfl, rfl, rfl, rfl, rfl, rfl, trivial⟩ ⟨by omega, hI.keep (by omega) (by rw [hce]; simp_all), (S1b.take 3)⟩
 obtain rfl : i = found.length := by omega
 refine r_exit rfl ?_
 refine r_seq ?_
 refine r_region ?_
 refine l_m rfl ?_
 refine l_a rfl ?_
 refine l_a rfl ?_
 refine l_nil ?_
 refine r_ret (rs := [.tmp 8, .tmp 9]) [_, _] Tryz.func50 rfl ⟨rfl, rfl, trivial⟩ ?_
 exact .inr (.inr ⟨hb9, hm9, _, rfl, by have h := S1.new 2 rfl; rw [hI.done] at h; exact h, S1.le⟩)

end Go.Proofs

namespace Go.Proofs
open Go Go.Vk Go.Vk.Flow

open Go.Vk.Mark
open Go.Vk.Deed (i64 rng rng_iff owners sumI sumI_cons sumI_snoc)

theorem bench_len8 {b : Sm} {day : Int} {r : Bool} {found : List Sg} {cs : List Clm} (h : beginE b day r found cs = 0) : found.length ≤ 60 := (found_ok (begin_parts h).2.1).1
theorem begin_apart8 {b : Sm} {day : Int} {r : Bool} {found : List Sg} {cs : List Clm} (h : beginE b day r found cs = 0) : Apart9 cs := apart_of (claim_ok (begin_parts h).2.2).2.2
theorem most_step8 {P : Nat → Bool} {n i k : Nat} (h : ∀ q : Nat, n < q + i → q ≤ n → P q = false) (hki : (n : Int) - i = k) (hp : P k = false) : ∀ q : Nat, n < q + (i + 1) → q ≤ n → P q = false := fun q h1 h2 => by
 by_cases e : q = k
 ·subst e; exact hp
 exact h q (by omega) h2
theorem rm_ten {cq : List Clm} {o : Int} (hno : ∀ c ∈ cq, c.owner ≠ o) (h : (10 : Int) < ((cq ++ [(⟨o, 0⟩ : Clm)]).length : Nat)) (hl : cq.length ≤ 10) : (oth9 cq o).length = 10 := by
 have hall : oth9 cq o = cq := List.filter_eq_self.2 fun x hx => by simpa using hno x hx
 rw [hall]
 rw [List.length_append, List.length_singleton] at h; omega
theorem rm_not {cq : List Clm} {o : Int} (hno : ∀ c ∈ cq, c.owner ≠ o) (h : (cq ++ [(⟨o, 0⟩ : Clm)]).length ≤ 10) : (oth9 cq o).length ≠ 10 := by
 have hall : oth9 cq o = cq := List.filter_eq_self.2 fun x hx => by simpa using hno x hx
 rw [hall]
 rw [List.length_append, List.length_singleton] at h; omega
theorem rm_in {cq : List Clm} {o : Int} {k : Nat} {c : Clm} (hc : cq[k]? = some c) (ho : c.owner = o) (hl : cq.length ≤ 10) : (oth9 cq o).length ≠ 10 := fun h => by
 have h1 : (oth9 cq o).length < cq.length := by
  refine List.length_filter_lt_length_iff_exists.2 ⟨c, List.mem_of_getElem? hc, by simp [ho]⟩
 omega

set_option maxHeartbeats 4000000 in
theorem c_rMost (b : Sm) (vm vf : Value) (day : Int) (found : List Sg) (vs : Value) (cq : List Clm) (vq : Value) (hm : found.length ≤ 9223372036854775807) (hmc : cq.length ≤ 9223372036854775807) (o : Int) (w : World) (hB : SmR 39 41 w vm vf b) (hF : Rd ESG w vs found) (hC : Rd ECL w vq cq) :
  Cl Tryz.prog 52 #[.agg #[vm, vf], Value.int .i64 day, vs, vq, Value.int .i64 o] w fun v w' => (∃ e, e ≠ 0 ∧ v = .tuple #[.int .i64 0, .int .i64 e] ∧ e = beginE b day (ownB o) found cq ∧ Le w w') ∨ (beginE b day (ownB o) found cq = 0 ∧ (oth9 cq o).length = 10 ∧ v = .tuple #[.int .i64 0, .int .i64 2] ∧ Le w w') ∨ (∃ n : Nat, beginE b day (ownB o) found cq = 0 ∧ (oth9 cq o).length ≠ 10 ∧ n ≤ 60 ∧ mostP b day found cq o n = true ∧ (∀ q : Nat, n < q → q ≤ 60 → mostP b day found cq o q = false) ∧ v = .tuple #[.int .i64 n, .int .i64 0] ∧ Le w w') ∨ (beginE b day (ownB o) found cq = 0 ∧ (oth9 cq o).length ≠ 10 ∧ (∀ q : Nat, q ≤ 60 → mostP b day found cq o q = false) ∧ v = .tuple #[.int .i64 0, .int .i64 30] ∧ Le w w') := by
 refine fn_of_run (args := [_, _, _, _, _]) 59 Tryz.func52 rfl rfl rfl fun cs => ?_
 have S := Own.start (X := nob) w
 refine r_seq ?_
 refine r_region ?_
 refine l_box S rfl rfl ?_
 intro b4 w1 S2 hl3
 refine l_a rfl ?_
 refine l_a rfl ?_
 refine l_nil ?_
 refine r_seq ?_
 refine r_region ?_
 refine l_x rfl (x_load rfl (ld_blks (S2.blk 0 rfl) Tryz.isAgg25 Tryz.sizeOf25 rfl rfl)) ?_
 refine l_m rfl ?_
 refine l_m rfl ?_
 refine l_buildSlice EI [o] S2 rfl Tryz.runUnderlying52 Tryz.sizeOf3 Tryz.zeroValue3 rfl ⟨rfl, rfl, trivial⟩ (Nat.le_of_ble_eq_true rfl) ?_
 intro v8 w5 S6 hl7
 refine l_m rfl ?_
 refine l_m rfl ?_
 refine l_call [] [] [_, _, _, _, _] rfl rfl Tryz.call94 rfl (c_rbegin b vm vf day [o] _ (Nat.le_of_ble_eq_true rfl) found vs hm cq vq hmc _ (hB.le S6.le) (vec_rd (S6.at 1 rfl)) (hF.le S6.le) (hC.le S6.le)) ?_
 rintro _ w9 ⟨rfl, hl11⟩
 have S10 := S6.step hl11
 refine l_a rfl ?_
 refine l_nil ?_
 refine r_seq ?_
 refine r_seq ?_
 refine r_region ?_
 refine l_m rfl ?_
 refine l_x rfl (x_neq rfl rfl) ?_
 refine l_nil ?_
 refine r_ifd rfl (fun hc24 => ?_) (fun hc24 => ?_)
 ·skip
  refine r_seq ?_
  refine r_region ?_
  refine l_m rfl ?_
  refine l_a rfl ?_
  refine l_a rfl ?_
  refine l_nil ?_
  refine r_ret (rs := [.tmp 10, .tmp 11]) [_, _] Tryz.func52 rfl ⟨rfl, rfl, trivial⟩ ?_
  rw [all1] at hc24
  exact .inl ⟨_, hc24, congrArg (fun z => Value.tuple #[.int .i64 0, .int .i64 (beginE b day z found cq)]) all1, rfl, S10.le⟩
 have hb : beginE b day (ownB o) found cq = 0 := by have h := Decidable.not_not.1 hc24; rw [all1] at h; exact h
 have hf60 := bench_len8 hb
 have hcl := (claim_ok (begin_parts hb).2.2).1
 have hap := begin_apart8 hb
 refine r_skip ?_
 refine r_seq ?_
 refine r_region ?_
 refine l_buildSlice ECL [] S10 rfl Tryz.runUnderlying51 Tryz.sizeOf83 Tryz.zeroValue83 rfl trivial (Nat.le_of_ble_eq_true rfl) ?_
 intro v15 w12 S13 hl14
 refine l_m rfl ?_
 refine l_append ECL S13 2 rfl rfl rfl rfl (hC.le S13.le) Tryz.underlying51 info83 rfl rfl rfl (by unfold maxLen; rw [List.length_nil]; omega) (by rw [List.length_nil]; show _ * 16 ≤ _; omega) ?_
 intro v19 w16 S17 hk18 hv20
 refine l_a rfl ?_
 refine l_nil ?_
 refine r_seq ?_
 refine r_region ?_
 refine l_m rfl ?_
 refine l_m rfl ?_
 refine l_call [] [] [_, _] rfl rfl Tryz.call96 rfl (c_rclaimed cq _ o (by omega) _ (vec_rd (S17.at 2 rfl))) ?_
 rintro _ w21 ⟨rfl, hl23⟩
 have S22 := S17.step hl23
 refine l_a rfl ?_
 refine l_nil ?_
 refine r_seq ?_
 refine r_seq ?_
 rcases ix_casesG (fun a : Clm => decide (a.owner = o)) cq with ⟨hn9, hno⟩ | ⟨k, c, hk, hc, hco⟩
 ·skip
  refine r_slot 14 (.int .i64 (-1)) (congrArg (Value.int .i64) hn9) ?_
  have hno : ∀ c ∈ cq, c.owner ≠ o := fun c hc => by simpa using hno c hc
  have hA := AllC.new hb hno
  refine r_region ?_
  refine l_m rfl ?_
  refine l_x rfl (x_lss rfl rfl) ?_
  refine l_nil ?_
  refine r_ifd rfl (fun hc33 => ?_) (fun hc33 => ?_)
  ·skip
   refine r_seq ?_
   refine r_region ?_
   refine l_m rfl ?_
   refine l_x rfl (x_len (vec_rd (S22.at 2 rfl)) rfl Tryz.runUnderlying51) ?_
   refine l_a rfl ?_
   refine l_nil ?_
   refine r_region ?_
   refine l_m rfl ?_
   refine l_m rfl ?_
   refine l_x rfl (x_buildS (out := [_, _]) (ss := [1, 1]) Tryz.zeroValue83 rfl Tryz.runUnderlying83 ⟨Tryz.sizeOf3, Tryz.sizeOf3, trivial⟩ (fill_cons rfl rfl rfl (Nat.le_of_ble_eq_true rfl) fill_nil)) ?_
   refine l_buildSlice ECL [⟨o, 0⟩] S22 rfl Tryz.runUnderlying51 Tryz.sizeOf83 Tryz.zeroValue83 rfl ⟨rfl, rfl, trivial⟩ (Nat.le_of_ble_eq_true rfl) ?_
   intro v27 w24 S25 hl26
   refine l_append ECL S25 2 rfl rfl rfl rfl (vec_rd (S25.at 3 rfl)) Tryz.underlying51 info83 rfl rfl rfl (by unfold maxLen; simp; omega) (by simp; show _ * 16 ≤ _; omega) ?_
   intro v31 w28 S29 hk30 hv32
   refine l_a rfl ?_
   refine l_nil ?_
   refine r_seq ?_
   refine r_seq ?_
   refine r_region ?_
   refine l_m rfl ?_
   refine l_x rfl (x_len (vec_rd (S29.at 2 rfl)) rfl Tryz.runUnderlying51) ?_
   refine l_x rfl (x_gtr rfl rfl) ?_
   refine l_nil ?_
   refine r_ifd rfl (fun hc43 => ?_) (fun hc43 => ?_)
   ·skip
    refine r_seq ?_
    refine r_region ?_
    refine l_a rfl ?_
    refine l_a rfl ?_
    refine l_nil ?_
    refine r_ret (rs := [.tmp 10, .tmp 11]) [_, _] Tryz.func52 rfl ⟨rfl, rfl, trivial⟩ ?_
    exact .inr (.inl ⟨hb, rm_ten hno hc43 hcl, rfl, S29.le⟩)
   have hal : (cq ++ [(⟨o, 0⟩ : Clm)]).length ≤ 10 := by
    have h43 : ¬ (10 : Int) < ((cq ++ [(⟨o, 0⟩ : Clm)]).length : Nat) := hc43
    omega
   have h10 : (oth9 cq o).length ≠ 10 := rm_not hno hal
   refine r_skip ?_
   refine r_seq ?_
   refine r_seq ?_
   refine r_region ?_
   refine l_a rfl ?_
   refine l_nil ?_
   refine r_block ?_
   refine r_loop (G := Nat × Int) (fun ⟨i, zz⟩ => 61 - i) (fun ⟨i, zz⟩ => [(1, Value.int .i64 day), (2, vs), (5, .pointer (some ⟨b4, 0, none⟩)), (13, v31), (14, Value.int .i64 cq.length), (15, Value.int .i64 (60 - (i : Int)))]) (fun ⟨i, zz⟩ w' => (i ≤ 61) ∧ (∀ q : Nat, 60 < q + i → q ≤ 60 → mostP b day found cq o q = false) ∧ Own nob w w' [blk b4 [vm, vf] 25, vec ECL v31 ((cq ++ [(⟨o, 0⟩ : Clm)]).set cq.length ⟨o, zz⟩)]) (0, 0) ⟨rfl, rfl, rfl, rfl, rfl, (congrArg (Value.int .i64) (by omega)), trivial⟩ ⟨Nat.zero_le _, fun q h1 h2 => by omega, (by have h := S29.pick (L' := [_, _]) [0, 2] (by decide) rfl; rw [List.nil_append, ← set_self9 (al := cq ++ [(⟨o, 0⟩ : Clm)]) (k := cq.length) (c := (⟨o, 0⟩ : Clm)) (o := o) (by simp) rfl] at h; exact h)⟩ ?_
   rintro ⟨i, zz⟩ ρ w1 ⟨hi, hqf, S1⟩ IH
   refine r_seq ?_
   refine r_seq ?_
   refine r_region ?_
   refine l_m rfl ?_
   refine l_x rfl (x_geq rfl rfl) ?_
   refine l_nil ?_
   refine r_ifd rfl (fun hc45 => ?_) (fun hc45 => ?_)
   ·skip
    obtain ⟨q9, hq9⟩ : ∃ q : Nat, (60 - (i : Int)) = q := ⟨60 - i, by omega⟩
    refine r_skip ?_
    refine r_seq ?_
    refine r_block ?_
    refine r_seq ?_
    refine r_region ?_
    refine l_m rfl ?_
    refine l_m rfl ?_
    refine l_m rfl ?_
    refine l_index ECL rfl (vec_rd (S1.at 1 rfl)) rfl rfl Tryz.runUnderlying51 Tryz.sizeOf83 (by omega) (hA.at) ?_
    intro b33 o34 hat35 row36
    refine l_x rfl (x_fieldAddr rfl Tryz.runUnderlying83 rfl Tryz.sizeOf3 (by decide)) ?_
    refine l_storevi (a' := ⟨o, (60 - (i : Int))⟩) (f := 1) S1 1 rfl rfl hat35 rfl rfl Tryz.sizeOf3 (hA.at) (by decide) rfl ?_
    intro w37 S38 hk39
    refine l_nil ?_
    refine r_seq ?_
    refine r_region ?_
    refine l_x rfl (x_load rfl (ld_blks (S38.blk 0 rfl) Tryz.isAgg25 Tryz.sizeOf25 rfl rfl)) ?_
    refine l_m rfl ?_
    refine l_m rfl ?_
    refine l_m rfl ?_
    refine l_call [] [] [_, _, _, _] rfl rfl Tryz.call95 rfl (c_rmet b vm vf day found vs ((cq ++ [(⟨o, 0⟩ : Clm)]).set cq.length ⟨o, (60 - (i : Int))⟩) _ hf60 (by rw [List.length_set]; omega) (hA.sbd (by omega)) _ (hB.le S38.le) (hF.le S38.le) (by have h := (vec_rd (S38.at 1 rfl)); rw [Int.toNat_natCast, List.set_set] at h; exact h)) ?_
    rintro _ w40 ⟨rfl, hl42⟩
    have S41 := S38.step hl42
    refine l_nil ?_
    refine r_if rfl (fun hc57 => ?_) (fun hc57 => ?_)
    ·skip
     refine r_seq ?_
     refine r_region ?_
     refine l_m rfl ?_
     refine l_a rfl ?_
     refine l_a rfl ?_
     refine l_nil ?_
     refine r_ret (rs := [.tmp 10, .tmp 11]) [_, _] Tryz.func52 rfl ⟨rfl, rfl, trivial⟩ ?_
     exact .inr (.inr (.inl ⟨q9, hb, h10, by omega, (hA.met hap hq9).symm.trans (by simpa using hc57), fun q h1 h2 => hqf q (by omega) h2, congrArg (fun q => Value.tuple #[.int .i64 q, .int .i64 0]) hq9, S41.le⟩))
    refine r_skip ?_
    refine r_inBlock ?_
    refine r_region ?_
    refine l_m rfl ?_
    refine l_x rfl (x_sub rfl rfl (by omega)) ?_
    refine l_a rfl ?_
    refine l_nil ?_
    exact IH (i + 1, (60 - (i : Int))) _ _ (by dsimp only; omega) ⟨rfl, rfl, rfl, rfl, rfl, (congrArg (Value.int .i64) (by omega)), trivial⟩ ⟨by omega, most_step8 (n := 60) hqf (by omega) ((hA.met hap hq9).symm.trans (by simpa using hc57)), (by have h := S41.take 2; rw [Int.toNat_natCast, List.set_set] at h; exact h)⟩
   obtain rfl : i = 61 := by omega
   refine r_exit rfl ?_
   refine r_seq ?_
   refine r_region ?_
   refine l_a rfl ?_
   refine l_a rfl ?_
   refine l_nil ?_
   refine r_ret (rs := [.tmp 10, .tmp 11]) [_, _] Tryz.func52 rfl ⟨rfl, rfl, trivial⟩ ?_
   exact .inr (.inr (.inr ⟨hb, h10, fun q h => hqf q (by omega) h, rfl, S1.le⟩))
  omega
 refine r_slot 14 (.int .i64 (k : Int)) (congrArg (Value.int .i64) hk) ?_
 have hco : c.owner = o := by simpa using hco
 have hA := AllC.here hb hc hco
 refine r_region ?_
 refine l_m rfl ?_
 refine l_x rfl (x_lss rfl rfl) ?_
 refine l_nil ?_
 refine r_ifd rfl (fun hc33 => ?_) (fun hc33 => ?_)
 ·omega
 refine r_skip ?_
 refine r_seq ?_
 refine r_seq ?_
 refine r_region ?_
 refine l_m rfl ?_
 refine l_x rfl (x_len (vec_rd (S22.at 2 rfl)) rfl Tryz.runUnderlying51) ?_
 refine l_x rfl (x_gtr rfl rfl) ?_
 refine l_nil ?_
 refine r_ifd rfl (fun hc43 => ?_) (fun hc43 => ?_)
 ·have h43 : (10 : Int) < (cq.length : Nat) := hc43; omega
 have hal : cq.length ≤ 10 := hcl
 have h10 : (oth9 cq o).length ≠ 10 := rm_in hc hco hcl
 refine r_skip ?_
 refine r_seq ?_
 refine r_seq ?_
 refine r_region ?_
 refine l_a rfl ?_
 refine l_nil ?_
 refine r_block ?_
 refine r_loop (G := Nat × Int) (fun ⟨i, zz⟩ => 61 - i) (fun ⟨i, zz⟩ => [(1, Value.int .i64 day), (2, vs), (5, .pointer (some ⟨b4, 0, none⟩)), (13, v19), (14, Value.int .i64 k), (15, Value.int .i64 (60 - (i : Int)))]) (fun ⟨i, zz⟩ w' => (i ≤ 61) ∧ (∀ q : Nat, 60 < q + i → q ≤ 60 → mostP b day found cq o q = false) ∧ Own nob w w' [blk b4 [vm, vf] 25, vec ECL v19 (cq.set k ⟨o, zz⟩)]) (0, c.number) ⟨rfl, rfl, rfl, rfl, rfl, (congrArg (Value.int .i64) (by omega)), trivial⟩ ⟨Nat.zero_le _, fun q h1 h2 => by omega, (by have h := S22.pick (L' := [_, _]) [0, 2] (by decide) rfl; rw [List.nil_append, ← set_self9 hc hco] at h; exact h)⟩ ?_
 rintro ⟨i, zz⟩ ρ w1 ⟨hi, hqf, S1⟩ IH
 refine r_seq ?_
 refine r_seq ?_
 refine r_region ?_
 refine l_m rfl ?_
 refine l_x rfl (x_geq rfl rfl) ?_
 refine l_nil ?_
 refine r_ifd rfl (fun hc45 => ?_) (fun hc45 => ?_)
 ·skip
  obtain ⟨q9, hq9⟩ : ∃ q : Nat, (60 - (i : Int)) = q := ⟨60 - i, by omega⟩
  refine r_skip ?_
  refine r_seq ?_
  refine r_block ?_
  refine r_seq ?_
  refine r_region ?_
  refine l_m rfl ?_
  refine l_m rfl ?_
  refine l_m rfl ?_
  refine l_index ECL rfl (vec_rd (S1.at 1 rfl)) rfl rfl Tryz.runUnderlying51 Tryz.sizeOf83 (by omega) (hA.at) ?_
  intro b43 o44 hat45 row46
  refine l_x rfl (x_fieldAddr rfl Tryz.runUnderlying83 rfl Tryz.sizeOf3 (by decide)) ?_
  refine l_storevi (a' := ⟨o, (60 - (i : Int))⟩) (f := 1) S1 1 rfl rfl hat45 rfl rfl Tryz.sizeOf3 (hA.at) (by decide) rfl ?_
  intro w47 S48 hk49
  refine l_nil ?_
  refine r_seq ?_
  refine r_region ?_
  refine l_x rfl (x_load rfl (ld_blks (S48.blk 0 rfl) Tryz.isAgg25 Tryz.sizeOf25 rfl rfl)) ?_
  refine l_m rfl ?_
  refine l_m rfl ?_
  refine l_m rfl ?_
  refine l_call [] [] [_, _, _, _] rfl rfl Tryz.call95 rfl (c_rmet b vm vf day found vs (cq.set k ⟨o, (60 - (i : Int))⟩) _ hf60 (by rw [List.length_set]; omega) (hA.sbd (by omega)) _ (hB.le S48.le) (hF.le S48.le) (by have h := (vec_rd (S48.at 1 rfl)); rw [Int.toNat_natCast, List.set_set] at h; exact h)) ?_
  rintro _ w50 ⟨rfl, hl52⟩
  have S51 := S48.step hl52
  refine l_nil ?_
  refine r_if rfl (fun hc57 => ?_) (fun hc57 => ?_)
  ·skip
   refine r_seq ?_
   refine r_region ?_
   refine l_m rfl ?_
   refine l_a rfl ?_
   refine l_a rfl ?_
   refine l_nil ?_
   refine r_ret (rs := [.tmp 10, .tmp 11]) [_, _] Tryz.func52 rfl ⟨rfl, rfl, trivial⟩ ?_
   exact .inr (.inr (.inl ⟨q9, hb, h10, by omega, (hA.met hap hq9).symm.trans (by simpa using hc57), fun q h1 h2 => hqf q (by omega) h2, congrArg (fun q => Value.tuple #[.int .i64 q, .int .i64 0]) hq9, S51.le⟩))
  refine r_skip ?_
  refine r_inBlock ?_
  refine r_region ?_
  refine l_m rfl ?_
  refine l_x rfl (x_sub rfl rfl (by omega)) ?_
  refine l_a rfl ?_
  refine l_nil ?_
  exact IH (i + 1, (60 - (i : Int))) _ _ (by dsimp only; omega) ⟨rfl, rfl, rfl, rfl, rfl, (congrArg (Value.int .i64) (by omega)), trivial⟩ ⟨by omega, most_step8 (n := 60) hqf (by omega) ((hA.met hap hq9).symm.trans (by simpa using hc57)), (by have h := S51.take 2; rw [Int.toNat_natCast, List.set_set] at h; exact h)⟩
 obtain rfl : i = 61 := by omega
 refine r_exit rfl ?_
 refine r_seq ?_
 refine r_region ?_
 refine l_a rfl ?_
 refine l_a rfl ?_
 refine l_nil ?_
 refine r_ret (rs := [.tmp 10, .tmp 11]) [_, _] Tryz.func52 rfl ⟨rfl, rfl, trivial⟩ ?_
 exact .inr (.inr (.inr ⟨hb, h10, fun q h => hqf q (by omega) h, rfl, S1.le⟩))

end Go.Proofs

namespace Go.Proofs
open Go Go.Vk Go.Vk.Flow

open Go.Vk.Mark
open Go.Vk.Deed (i64 rng rng_iff owners sumI sumI_cons sumI_snoc)
open Go.Vk.Deed (cmpI)

theorem bench_len9 {b : Sm} {day : Int} {r : Bool} {found : List Sg} {cs : List Clm} (h : beginE b day r found cs = 0) : found.length ≤ 60 := (found_ok (begin_parts h).2.1).1

theorem most_step {P : Nat → Bool} {n i k : Nat} (h : ∀ q : Nat, n < q + i → q ≤ n → P q = false) (_hk : k ≤ n) (hki : (n : Int) - i = k) (hp : P k = false) : ∀ q : Nat, n < q + (i + 1) → q ≤ n → P q = false := fun q h1 h2 => by
 by_cases e : q = k
 ·subst e; exact hp
 exact h q (by omega) h2

set_option maxHeartbeats 4000000 in
theorem c_Most (b : Sm) (vm vf : Value) (day : Int) (found : List Sg) (vs : Value) (cs9 : List Clm) (vq : Value) (hm : found.length ≤ 9223372036854775807) (hmc : cs9.length ≤ 9223372036854775807) (hsg : ∀ t ∈ found, SgOk t) (o : Int) (w : World) (hB : SmR 39 41 w vm vf b) (hF : Rd ESG w vs found) (hC : Rd ECL w vq cs9) :
  Cl Tryz.prog 51 #[.agg #[vm, vf], Value.int .i64 day, vs, vq, Value.int .i64 o] w fun v w' => (∃ e, e ≠ 0 ∧ v = .tuple #[.int .i64 0, .int .i64 e] ∧ e = beginE b day (ownB o) found cs9 ∧ Le w w') ∨ (beginE b day (ownB o) found cs9 = 0 ∧ (oth9 cs9 o).length = 10 ∧ v = .tuple #[.int .i64 0, .int .i64 2] ∧ Le w w') ∨ (∃ n : Nat, beginE b day (ownB o) found cs9 = 0 ∧ (oth9 cs9 o).length ≠ 10 ∧ n ≤ found.length ∧ mostP b day found cs9 o n = true ∧ (∀ q : Nat, n < q → q ≤ found.length → mostP b day found cs9 o q = false) ∧ v = .tuple #[.int .i64 n, .int .i64 0] ∧ Le w w') ∨ (beginE b day (ownB o) found cs9 = 0 ∧ (oth9 cs9 o).length ≠ 10 ∧ (∀ q : Nat, q ≤ found.length → mostP b day found cs9 o q = false) ∧ v = .tuple #[.int .i64 0, .int .i64 30] ∧ Le w w') := by
 refine fn_of_run (args := [_, _, _, _, _]) 64 Tryz.func51 rfl rfl rfl fun cs => ?_
 have S := Own.start (X := nob) w
 refine r_seq ?_
 refine r_region ?_
 refine l_box S rfl rfl ?_
 intro b4 w1 S2 hl3
 refine l_box S2 rfl rfl ?_
 intro b8 w5 S6 hl7
 refine l_a rfl ?_
 refine l_a rfl ?_
 refine l_nil ?_
 refine r_seq ?_
 refine r_seq ?_
 refine r_drawE 11 nob Tryz.mixed (by kernel_rfl) ?_
 intro w9 hl10
 have S11 := S6.step hl10
 refine e_exact 0 _ (by kernel_rfl) rfl rfl (by kernel_rfl) rfl (ex_x rfl (fun w1 h1 => x_load rfl (ld_blks ((S11.step h1).blk 0 rfl) Tryz.isAgg25 Tryz.sizeOf25 rfl rfl))) ?_
 refine e_exact 1 _ (by kernel_rfl) rfl rfl (by kernel_rfl) rfl (ex_x rfl (fun w1 h1 => x_mv rfl)) ?_
 refine e_exact 2 _ (by kernel_rfl) rfl rfl (by kernel_rfl) rfl (ex_x rfl (fun w1 h1 => x_mv rfl)) ?_
 refine e_exact 3 _ (by kernel_rfl) rfl rfl (by kernel_rfl) rfl (ex_x rfl (fun w1 h1 => x_mv rfl)) ?_
 refine e_exact 4 _ (by kernel_rfl) rfl rfl (by kernel_rfl) rfl (ex_x rfl (fun w1 h1 => x_load rfl (ld_blk ((S11.step h1).blk 1 rfl) Tryz.isAgg3 rfl))) ?_
 refine e_next [5] (by kernel_rfl) (by kernel_rfl) ⟨⟨_, _, rfl, rfl, ?_⟩, trivial⟩
 refine s_callf [] [] [_] rfl rfl Tryz.call78 rfl ((c_isOwner _ _).mono ?_)
 rintro _ w12 ⟨rfl, hl14⟩
 have S13 := S11.step hl14
 refine ⟨.of_le hl14, ?_⟩
 refine e_next [6] (by kernel_rfl) (by kernel_rfl) ⟨⟨_, _, rfl, rfl, ?_⟩, trivial⟩
 refine s_callf [] [] [_, _, _, _, _] rfl rfl Tryz.call89 rfl ((c_seated b vm vf day found _ cs9 vq (ownB o) hm hmc hsg _ (hB.le S13.le) (hF.le S13.le) (hC.le S13.le)).mono ?_)
 rintro _ w15 (⟨e9, hne9, rfl, he9, hl2515⟩ | ⟨bb9, vc9, vu9, vn9, cz9, rfl, hb9, hp9, hs9, hN2515, hl2515⟩)
 ·skip
  have S16 := S13.step hl2515
  refine ⟨.of_le hl2515, ?_⟩
  refine e_exact 7 _ (by kernel_rfl) rfl rfl (by kernel_rfl) rfl (ex_x rfl (fun w1 h1 => x_mv rfl)) ?_
  refine e_exact 8 _ (by kernel_rfl) rfl rfl (by kernel_rfl) rfl (ex_x rfl (fun w1 h1 => x_extract rfl rfl)) ?_
  refine e_exact 9 _ (by kernel_rfl) rfl rfl (by kernel_rfl) rfl (ex_x rfl (fun w1 h1 => x_extract rfl rfl)) ?_
  refine e_exact 10 _ (by kernel_rfl) rfl rfl (by kernel_rfl) rfl (ex_x rfl (fun w1 h1 => x_as rfl)) ?_
  refine e_done (by kernel_rfl) ?_
  refine l_a rfl ?_
  refine l_nil ?_
  refine r_seq ?_
  refine r_region ?_
  refine l_m rfl ?_
  refine l_x rfl (x_neq rfl rfl) ?_
  refine l_nil ?_
  refine r_ifd rfl (fun hc29 => ?_) (fun hc29 => ?_)
  ·skip
   refine r_seq ?_
   refine r_region ?_
   refine l_m rfl ?_
   refine l_a rfl ?_
   refine l_a rfl ?_
   refine l_nil ?_
   refine r_ret (rs := [.tmp 10, .tmp 11]) [_, _] Tryz.func51 rfl ⟨rfl, rfl, trivial⟩ ?_
   exact .inl ⟨e9, hne9, rfl, he9, S16.le⟩
  exact absurd hne9 hc29
 have S17 := S13.add hl2515 hN2515
 refine ⟨.of_le hl2515, ?_⟩
 have hf60 := bench_len9 hb9
 have hcl9 := (claim_ok (begin_parts hb9).2.2).1
 have hol9 := oth_len (cs := cs9) (o := o)
 refine e_exact 7 _ (by kernel_rfl) rfl rfl (by kernel_rfl) rfl (ex_x rfl (fun w1 h1 => x_mv rfl)) ?_
 refine e_exact 8 _ (by kernel_rfl) rfl rfl (by kernel_rfl) rfl (ex_x rfl (fun w1 h1 => x_extract rfl rfl)) ?_
 refine e_exact 9 _ (by kernel_rfl) rfl rfl (by kernel_rfl) rfl (ex_x rfl (fun w1 h1 => x_extract rfl rfl)) ?_
 refine e_exact 10 _ (by kernel_rfl) rfl rfl (by kernel_rfl) rfl (ex_x rfl (fun w1 h1 => x_as rfl)) ?_
 refine e_done (by kernel_rfl) ?_
 refine l_a rfl ?_
 refine l_nil ?_
 refine r_seq ?_
 refine r_region ?_
 refine l_m rfl ?_
 refine l_x rfl (x_neq rfl rfl) ?_
 refine l_nil ?_
 refine r_ifd rfl (fun hc29 => ?_) (fun hc29 => ?_)
 ·exact absurd rfl hc29
 refine r_skip ?_
 refine r_seq ?_
 refine r_region ?_
 refine l_m rfl ?_
 refine l_call [] [] [_] rfl rfl Tryz.call121 rfl (c_CloneC _ cs9 (by omega) _ (hC.le S17.le)) ?_
 rintro v3218 w18 ⟨hN3218, hl3218⟩
 have S19 := S17.add hl3218 hN3218
 refine l_x rfl (x_func rfl rfl) ?_
 refine l_call [] [] [_, _] rfl rfl Tryz.call120 rfl (c_DeleteFuncC _ _ (fun x : Clm => decide (x.owner = o)) 122 [_] (by omega) _ Tryz.call122 (fun x hx w1 h1 => c_most1 x o _ w1 ((S19).beside 3 1 rfl rfl (by decide) h1)) ((S19).lend 3 rfl)) ?_
 rintro v20 w21 hb22
 have S23 := S19.back 3 rfl hb22
 refine l_a rfl ?_
 refine l_nil ?_
 refine r_seq ?_
 refine r_seq ?_
 refine r_region ?_
 refine l_m rfl ?_
 refine l_x rfl (x_len (vec_rd (S23.at 3 rfl)) rfl Tryz.runUnderlying51) ?_
 refine l_x rfl (x_eql rfl rfl) ?_
 refine l_nil ?_
 refine r_ifd rfl (fun hc37 => ?_) (fun hc37 => ?_)
 ·skip
  have ho10 : (oth9 cs9 o).length = 10 := by
   have h : ((oth9 cs9 o).length : Int) = 10 := hc37
   omega
  refine r_seq ?_
  refine r_region ?_
  refine l_a rfl ?_
  refine l_a rfl ?_
  refine l_nil ?_
  refine r_ret (rs := [.tmp 10, .tmp 11]) [_, _] Tryz.func51 rfl ⟨rfl, rfl, trivial⟩ ?_
  exact .inr (.inl ⟨hb9, ho10, rfl, S23.le⟩)
 have ho10 : (oth9 cs9 o).length ≠ 10 := by
  have h : ¬ ((oth9 cs9 o).length : Int) = 10 := hc37
  omega
 refine r_skip ?_
 refine r_seq ?_
 refine r_seq ?_
 refine r_region ?_
 refine l_m rfl ?_
 refine l_x rfl (x_len (hF.le S23.le) rfl Tryz.runUnderlying50) ?_
 refine l_a rfl ?_
 refine l_nil ?_
 refine r_block ?_
 refine r_loop (G := Nat) (fun i => found.length + 1 - i) (fun i => [(1, Value.int .i64 day), (2, vs), (5, .pointer (some ⟨b4, 0, none⟩)), (9, .pointer (some ⟨b8, 0, none⟩)), (14, v20), (15, Value.int .i64 ((found.length : Int) - i))]) (fun i w' => (i ≤ found.length + 1) ∧ (∀ q : Nat, found.length < q + i → q ≤ found.length → mostP b day found cs9 o q = false) ∧ Own nob w w' [blk b4 [vm, vf] 25, blk b8 [Value.int .i64 o] 3, vec ECL v20 (oth9 cs9 o)]) 0 ⟨rfl, rfl, rfl, rfl, rfl, (congrArg (Value.int .i64) (by omega)), trivial⟩ ⟨Nat.zero_le _, fun q h1 h2 => by omega, (S23.pick [0, 1, 3] (by decide) rfl)⟩ ?_
 rintro i ρ w1 ⟨hi, hq, S1⟩ IH
 refine r_seq ?_
 refine r_seq ?_
 refine r_region ?_
 refine l_m rfl ?_
 refine l_x rfl (x_geq rfl rfl) ?_
 refine l_nil ?_
 refine r_ifd rfl (fun hc41 => ?_) (fun hc41 => ?_)
 ·skip
  obtain ⟨k, hki⟩ : ∃ k : Nat, ((found.length : Int) - i) = k := ⟨found.length - i, by omega⟩
  have hk9 : k ≤ found.length := by omega
  refine r_skip ?_
  refine r_seq ?_
  refine r_block ?_
  refine r_seq ?_
  refine r_drawE 16 (yng w1) Tryz.mixed (by kernel_rfl) ?_
  intro w24 hl25
  have S26 := S1.step hl25
  have hy27 : Keep (yng w1) w1 w24 := .of_le hl25
  refine e_exact 0 _ (by kernel_rfl) rfl rfl (by kernel_rfl) rfl (ex_x rfl (fun w1 h1 => x_load rfl (ld_blks ((S1.yng (hy27.trans h1)).blk 0 rfl) Tryz.isAgg25 Tryz.sizeOf25 rfl rfl))) ?_
  refine e_exact 1 _ (by kernel_rfl) rfl rfl (by kernel_rfl) rfl (ex_x rfl (fun w1 h1 => x_mv rfl)) ?_
  refine e_exact 2 _ (by kernel_rfl) rfl rfl (by kernel_rfl) rfl (ex_x rfl (fun w1 h1 => x_mv rfl)) ?_
  refine e_exact 3 _ (by kernel_rfl) rfl rfl (by kernel_rfl) rfl (ex_x rfl (fun w1 h1 => x_mv rfl)) ?_
  refine e_exact 5 _ (by kernel_rfl) rfl rfl (by kernel_rfl) rfl (ex_x rfl (fun w1 h1 => x_load rfl (ld_blk ((S1.yng (hy27.trans h1)).blk 1 rfl) Tryz.isAgg3 rfl))) ?_
  refine e_exact 6 _ (by kernel_rfl) rfl rfl (by kernel_rfl) rfl (ex_x rfl (fun w1 h1 => x_mv rfl)) ?_
  refine e_exact 7 _ (by kernel_rfl) rfl rfl (by kernel_rfl) rfl (ex_x rfl (fun w1 h1 => x_buildS (out := [_, _]) (ss := [1, 1]) Tryz.zeroValue83 rfl Tryz.runUnderlying83 ⟨Tryz.sizeOf3, Tryz.sizeOf3, trivial⟩ (fill_cons rfl rfl rfl (Nat.le_of_ble_eq_true rfl) (fill_cons rfl rfl rfl (Nat.le_of_ble_eq_true rfl) fill_nil)))) ?_
  refine e_next [4, 8] (by kernel_rfl) (by kernel_rfl) ⟨⟨_, _, rfl, rfl, ?_⟩, ⟨_, _, rfl, rfl, ?_⟩, trivial⟩
  ·skip
   refine s_callf [] [] [_] rfl rfl Tryz.call121 rfl ((c_CloneC _ (oth9 cs9 o) (by omega) _ (vec_rd (S26.at 2 rfl))).mono ?_)
   rintro v4928 w28 ⟨hN4928, hl4928⟩
   have S29 := S26.add hl4928 hN4928
   refine ⟨.of_le hl4928, ?_⟩
   have hyb30 : ∀ c, (vec ECL v4928 []).fp c → yng w1 c := fun c hc => Nat.le_trans hy27.size (hN4928.bd c hc).1
   have hy31 : Keep (yng w1) w1 w28 := hy27.trans (Keep.of_le hl4928)
   refine e_next [8] (by kernel_rfl) (by kernel_rfl) ⟨⟨_, _, rfl, rfl, ?_⟩, trivial⟩
   refine s_buildSlice ECL [⟨o, ((found.length : Int) - i)⟩] (Own.start (X := nob) w28) rfl Tryz.runUnderlying51 Tryz.sizeOf83 Tryz.zeroValue83 rfl ⟨rfl, rfl, trivial⟩ (by decide) ?_
   intro v36 w32 S33 hl35
   have hn37 := S33.new 0 rfl
   have S34 := S29.add hl35 hn37
   refine ⟨.of_le hl35, ?_⟩
   have hyb38 : ∀ c, (vec ECL v36 []).fp c → yng w1 c := fun c hc => Nat.le_trans hy31.size (hn37.bd c hc).1
   have hy39 : Keep (yng w1) w1 w32 := hy31.trans (Keep.of_le hl35)
   refine e_next [9] (by kernel_rfl) (by kernel_rfl) ⟨⟨_, _, rfl, rfl, ?_⟩, trivial⟩
   refine s_append ECL (S34.lend 3 rfl) 0 rfl rfl rfl rfl (vec_rd (S34.at 4 rfl)) Tryz.underlying51 info83 rfl rfl rfl (by unfold maxLen; simp; omega) (by simp; show _ * 16 ≤ _; omega) ?_
   intro v44 w40 S41 hk43 hv45
   have S42 := S34.back 3 rfl S41
   have hyb46 : ∀ c, (vec ECL v44 []).fp c → yng w1 c := fun c hc => (S41.bd 0 _ rfl c hc).2.elim (fun h => Nat.le_trans hy39.size h) (hyb30 c)
   refine ⟨hk43.mono fun c _ hc => hyb30 c hc, ?_⟩
   have hy47 : Keep (yng w1) w1 w40 := hy39.trans (hk43.mono fun c _ hc => hyb30 c hc)
   refine e_next [10] (by kernel_rfl) (by kernel_rfl) ⟨⟨_, _, rfl, rfl, ?_⟩, trivial⟩
   refine s_callf [] [] [_, _, _, _, _] rfl rfl Tryz.call89 rfl ((c_seated b vm vf day found _ ((oth9 cs9 o) ++ [⟨o, ((found.length : Int) - i)⟩]) _ true hm (by simp; omega) hsg _ (hB.le S42.le) (hF.le S42.le) (vec_rd (S42.at 3 rfl))).mono ?_)
   rintro _ w48 (⟨e8, hne8, rfl, he8, hl5548⟩ | ⟨bb8, vc8, vu8, vn8, cz8, rfl, hb8, hp8, hs8, hN5548, hl5548⟩)
   ·exact absurd (he8.trans (oth_begin hb9 ho10 (by omega))) hne8
   have S49 := S42.add hl5548 hN5548
   refine ⟨.of_le hl5548, ?_⟩
   rw [hki] at hb8 hp8
   have hcp8 := most_can hb8 hp8
   have hbo8 := bench_ok hb8 hp8
   have hy50 : Keep (yng w1) w1 w48 := hy47.trans (Keep.of_le hl5548)
   refine e_exact 11 _ (by kernel_rfl) rfl rfl (by kernel_rfl) rfl (ex_x rfl (fun w1 h1 => x_mv rfl)) ?_
   refine e_exact 12 _ (by kernel_rfl) rfl rfl (by kernel_rfl) rfl (ex_x rfl (fun w1 h1 => x_extract rfl rfl)) ?_
   refine e_exact 13 _ (by kernel_rfl) rfl rfl (by kernel_rfl) rfl (ex_x rfl (fun w1 h1 => x_extract rfl rfl)) ?_
   refine e_exact 14 _ (by kernel_rfl) rfl rfl (by kernel_rfl) rfl (ex_x rfl (fun w1 h1 => x_as rfl)) ?_
   refine e_exact 15 _ (by kernel_rfl) rfl rfl (by kernel_rfl) rfl (ex_x rfl (fun w1 h1 => x_as rfl)) ?_
   refine e_done (by kernel_rfl) ?_
   refine l_nil ?_
   refine r_seq ?_
   refine r_seq ?_
   refine r_region ?_
   refine l_m rfl ?_
   refine l_x rfl (x_neq rfl rfl) ?_
   refine l_nil ?_
   refine r_ifd rfl (fun hc59 => ?_) (fun hc59 => ?_)
   ·exact absurd rfl hc59
   refine r_skip ?_
   refine r_seq ?_
   refine r_region ?_
   refine l_m rfl ?_
   refine l_call [] [] [_] rfl rfl Tryz.call90 rfl (c_can bb8 vc8 vu8 vn8 cz8 (mks b day found cz8) (cnz b day found cz8) hbo8.l hbo8.b hbo8.n hbo8.c _ (bn_of (S49.ro 5 rfl))) ?_
   rintro _ w51 ⟨rfl, hl53⟩
   have S52 := S49.step hl53
   refine l_nil ?_
   refine r_if rfl (fun hc62 => ?_) (fun hc62 => ?_)
   ·skip
    refine r_seq ?_
    refine r_region ?_
    refine l_m rfl ?_
    refine l_a rfl ?_
    refine l_a rfl ?_
    refine l_nil ?_
    refine r_ret (rs := [.tmp 10, .tmp 11]) [_, _] Tryz.func51 rfl ⟨rfl, rfl, trivial⟩ ?_
    exact .inr (.inr (.inl ⟨k, hb9, ho10, hk9, by rw [← hcp8]; simpa using hc62, fun q h1 h2 => hq q (by omega) h2, congrArg (fun q => Value.tuple #[.int .i64 q, .int .i64 0]) hki, S52.le⟩))
   refine r_skip ?_
   refine r_inBlock ?_
   refine r_region ?_
   refine l_m rfl ?_
   refine l_x rfl (x_sub rfl rfl (by omega)) ?_
   refine l_a rfl ?_
   refine l_nil ?_
   exact IH (i + 1) _ _ (by omega) ⟨rfl, rfl, rfl, rfl, rfl, (congrArg (Value.int .i64) (by omega)), trivial⟩ ⟨by omega, most_step hq hk9 hki (by rw [← hcp8]; simpa using hc62), (S52.take 3)⟩
  refine s_buildSlice ECL [⟨o, ((found.length : Int) - i)⟩] (Own.start (X := nob) w24) rfl Tryz.runUnderlying51 Tryz.sizeOf83 Tryz.zeroValue83 rfl ⟨rfl, rfl, trivial⟩ (by decide) ?_
  intro v58 w54 S55 hl57
  have hn59 := S55.new 0 rfl
  have S56 := S26.add hl57 hn59
  refine ⟨.of_le hl57, ?_⟩
  have hyb60 : ∀ c, (vec ECL v58 []).fp c → yng w1 c := fun c hc => Nat.le_trans hy27.size (hn59.bd c hc).1
  have hy61 : Keep (yng w1) w1 w54 := hy27.trans (Keep.of_le hl57)
  refine e_next [4] (by kernel_rfl) (by kernel_rfl) ⟨⟨_, _, rfl, rfl, ?_⟩, trivial⟩
  refine s_callf [] [] [_] rfl rfl Tryz.call121 rfl ((c_CloneC _ (oth9 cs9 o) (by omega) _ (vec_rd (S56.at 2 rfl))).mono ?_)
  rintro v4962 w62 ⟨hN4962, hl4962⟩
  have S63 := S56.add hl4962 hN4962
  refine ⟨.of_le hl4962, ?_⟩
  have hyb64 : ∀ c, (vec ECL v4962 []).fp c → yng w1 c := fun c hc => Nat.le_trans hy61.size (hN4962.bd c hc).1
  have hy65 : Keep (yng w1) w1 w62 := hy61.trans (Keep.of_le hl4962)
  refine e_next [9] (by kernel_rfl) (by kernel_rfl) ⟨⟨_, _, rfl, rfl, ?_⟩, trivial⟩
  refine s_append ECL (S63.lend 4 rfl) 0 rfl rfl rfl rfl (vec_rd (S63.at 3 rfl)) Tryz.underlying51 info83 rfl rfl rfl (by unfold maxLen; simp; omega) (by simp; show _ * 16 ≤ _; omega) ?_
  intro v70 w66 S67 hk69 hv71
  have S68 := S63.back 4 rfl S67
  have hyb72 : ∀ c, (vec ECL v70 []).fp c → yng w1 c := fun c hc => (S67.bd 0 _ rfl c hc).2.elim (fun h => Nat.le_trans hy65.size h) (hyb64 c)
  refine ⟨hk69.mono fun c _ hc => hyb64 c hc, ?_⟩
  have hy73 : Keep (yng w1) w1 w66 := hy65.trans (hk69.mono fun c _ hc => hyb64 c hc)
  refine e_next [10] (by kernel_rfl) (by kernel_rfl) ⟨⟨_, _, rfl, rfl, ?_⟩, trivial⟩
  refine s_callf [] [] [_, _, _, _, _] rfl rfl Tryz.call89 rfl ((c_seated b vm vf day found _ ((oth9 cs9 o) ++ [⟨o, ((found.length : Int) - i)⟩]) _ true hm (by simp; omega) hsg _ (hB.le S68.le) (hF.le S68.le) (vec_rd (S68.at 4 rfl))).mono ?_)
  rintro _ w74 (⟨e8, hne8, rfl, he8, hl5574⟩ | ⟨bb8, vc8, vu8, vn8, cz8, rfl, hb8, hp8, hs8, hN5574, hl5574⟩)
  ·exact absurd (he8.trans (oth_begin hb9 ho10 (by omega))) hne8
  have S75 := S68.add hl5574 hN5574
  refine ⟨.of_le hl5574, ?_⟩
  rw [hki] at hb8 hp8
  have hcp8 := most_can hb8 hp8
  have hbo8 := bench_ok hb8 hp8
  have hy76 : Keep (yng w1) w1 w74 := hy73.trans (Keep.of_le hl5574)
  refine e_exact 11 _ (by kernel_rfl) rfl rfl (by kernel_rfl) rfl (ex_x rfl (fun w1 h1 => x_mv rfl)) ?_
  refine e_exact 12 _ (by kernel_rfl) rfl rfl (by kernel_rfl) rfl (ex_x rfl (fun w1 h1 => x_extract rfl rfl)) ?_
  refine e_exact 13 _ (by kernel_rfl) rfl rfl (by kernel_rfl) rfl (ex_x rfl (fun w1 h1 => x_extract rfl rfl)) ?_
  refine e_exact 14 _ (by kernel_rfl) rfl rfl (by kernel_rfl) rfl (ex_x rfl (fun w1 h1 => x_as rfl)) ?_
  refine e_exact 15 _ (by kernel_rfl) rfl rfl (by kernel_rfl) rfl (ex_x rfl (fun w1 h1 => x_as rfl)) ?_
  refine e_done (by kernel_rfl) ?_
  refine l_nil ?_
  refine r_seq ?_
  refine r_seq ?_
  refine r_region ?_
  refine l_m rfl ?_
  refine l_x rfl (x_neq rfl rfl) ?_
  refine l_nil ?_
  refine r_ifd rfl (fun hc59 => ?_) (fun hc59 => ?_)
  ·exact absurd rfl hc59
  refine r_skip ?_
  refine r_seq ?_
  refine r_region ?_
  refine l_m rfl ?_
  refine l_call [] [] [_] rfl rfl Tryz.call90 rfl (c_can bb8 vc8 vu8 vn8 cz8 (mks b day found cz8) (cnz b day found cz8) hbo8.l hbo8.b hbo8.n hbo8.c _ (bn_of (S75.ro 5 rfl))) ?_
  rintro _ w77 ⟨rfl, hl79⟩
  have S78 := S75.step hl79
  refine l_nil ?_
  refine r_if rfl (fun hc62 => ?_) (fun hc62 => ?_)
  ·skip
   refine r_seq ?_
   refine r_region ?_
   refine l_m rfl ?_
   refine l_a rfl ?_
   refine l_a rfl ?_
   refine l_nil ?_
   refine r_ret (rs := [.tmp 10, .tmp 11]) [_, _] Tryz.func51 rfl ⟨rfl, rfl, trivial⟩ ?_
   exact .inr (.inr (.inl ⟨k, hb9, ho10, hk9, by rw [← hcp8]; simpa using hc62, fun q h1 h2 => hq q (by omega) h2, congrArg (fun q => Value.tuple #[.int .i64 q, .int .i64 0]) hki, S78.le⟩))
  refine r_skip ?_
  refine r_inBlock ?_
  refine r_region ?_
  refine l_m rfl ?_
  refine l_x rfl (x_sub rfl rfl (by omega)) ?_
  refine l_a rfl ?_
  refine l_nil ?_
  exact IH (i + 1) _ _ (by omega) ⟨rfl, rfl, rfl, rfl, rfl, (congrArg (Value.int .i64) (by omega)), trivial⟩ ⟨by omega, most_step hq hk9 hki (by rw [← hcp8]; simpa using hc62), (S78.take 3)⟩
 obtain rfl : i = found.length + 1 := by omega
 refine r_exit rfl ?_
 refine r_seq ?_
 refine r_region ?_
 refine l_a rfl ?_
 refine l_a rfl ?_
 refine l_nil ?_
 refine r_ret (rs := [.tmp 10, .tmp 11]) [_, _] Tryz.func51 rfl ⟨rfl, rfl, trivial⟩ ?_
 exact .inr (.inr (.inr ⟨hb9, ho10, fun q h => hq q (by omega) h, rfl, S1.le⟩))

end Go.Proofs

namespace Go.Proofs
open Go Go.Vk Go.Vk.Flow

open Go.Vk.Mark
open Go.Vk.Deed (i64 rng rng_iff owners sumI sumI_cons sumI_snoc)
open Go.Vk.Deed (cmpI)

def ckS (cz : List Clm) (os : List Int) (l : List Nat) : Bool := l.any fun s => decide (lsP cz s cz.length = os)
end Go.Proofs

namespace Go.Proofs
open Go Go.Vk Go.Vk.Flow

open Go.Vk.Mark
open Go.Vk.Deed (i64 rng rng_iff owners sumI sumI_cons sumI_snoc)
open Go.Vk.Deed (cmpI)

section
variable {b : Sm} {day : Int} {found : List Sg} {cs9 cz : List Clm}
theorem bench_same (hb : beginE b day true found cs9 = 0) (hp : cz.Perm cs9) : Same9 cz cz := ⟨apart_perm hp (begin_apart hb), rfl⟩
theorem bench_lt : ∀ q ∈ mks b day found cz, q < 2 ^ cz.length := fun q hq => by
 obtain ⟨t, _, rfl⟩ := List.mem_map.1 hq
 exact msk_lt
theorem bench_own (hb : beginE b day true found cs9 = 0) (hp : cz.Perm cs9) : ∀ c ∈ cz, c.owner ≠ 0 := fun c hc => by
 have := (claim_ok (begin_parts hb).2.2).2.1 c (hp.mem_iff.1 hc)
 unfold claimB ownB at this
 rw [Bool.and_eq_true, Go.Vk.Deed.rng_iff] at this
 omega
theorem bench_asg (hb : beginE b day true found cs9 = 0) (hp : cz.Perm cs9) (h : canB cz (cnz b day found cz) = true) : meetsM (asg (mks b day found cz) cz (cnz b day found cz)) (mks b day found cz) cz = true := by
 unfold meetsM
 rw [decide_eq_true (asg_len _ _ _), Bool.true_and]
 exact asg_meets _ cz (bench_same hb hp) (bench_own hb hp) (bench_ok hb hp).b bench_lt (((bench_same hb hp).can bench_lt).1 h)
end
end Go.Proofs

namespace Go.Proofs
open Go Go.Vk Go.Vk.Flow

open Go.Vk.Mark
open Go.Vk.Deed (i64 rng rng_iff owners sumI sumI_cons sumI_snoc)

theorem c_few (b : Sm) (vm vf : Value) (l : List Sg) (vs : Value) (c : List Clm) (vq : Value) (w : World) (hB : SmR 39 41 w vm vf b) (hF : Rd ESG w vs l) (hC : Rd ECL w vq c) :
  Cl Tryz.prog 19 #[.agg #[vm, vf], vs, vq] w fun v w' => ∃ q : Bool, v = .bool q ∧ Le w w' := by
 refine fn_of_run (args := [_, _, _]) 57 Tryz.func19 rfl rfl rfl fun cs => ?_
 have S := Own.start (X := nob) w
 refine r_seq ?_
 refine r_region ?_
 refine l_box S rfl rfl ?_
 intro b4 w1 S2 hl3
 refine l_a rfl ?_
 refine l_nil ?_
 refine r_seq ?_
 refine r_seq ?_
 refine r_region ?_
 refine l_x rfl (x_fieldAddr rfl Tryz.runUnderlying25 rfl Tryz.sizeOf22 (by decide)) ?_
 refine l_x rfl (x_load rfl (ld_blk (S2.blk 0 rfl) Tryz.isAgg22 rfl)) ?_
 refine l_x rfl (x_len (hB.m.le S2.le) rfl Tryz.runUnderlying22) ?_
 refine l_x rfl (x_gtr rfl rfl) ?_
 refine l_m rfl ?_
 refine l_splitd (d := 11) rfl (fun hg11 => ?_) (fun hg11 => ?_)
 ·skip
  refine l_x rfl (x_fieldAddr rfl Tryz.runUnderlying25 rfl Tryz.sizeOf22 (by decide)) ?_
  refine l_x rfl (x_load rfl (ld_blk (S2.blk 0 rfl) Tryz.isAgg22 rfl)) ?_
  refine l_x rfl (x_len (hB.m.le S2.le) rfl Tryz.runUnderlying22) ?_
  refine l_x rfl (x_leq rfl rfl) ?_
  refine l_x rfl (x_pick_t rfl rfl) ?_
  refine l_m rfl ?_
  refine l_splitd (d := 17) rfl (fun hg17 => ?_) (fun hg17 => ?_)
  ·skip
   refine l_pass rfl ?_
   refine l_pass rfl ?_
   refine l_pass rfl ?_
   refine l_pass rfl ?_
   refine l_x rfl (x_pick_t rfl rfl) ?_
   refine l_m rfl ?_
   refine l_pass rfl ?_
   refine l_pass rfl ?_
   refine l_pass rfl ?_
   refine l_pass rfl ?_
   refine l_x rfl (x_pick_t rfl rfl) ?_
   refine l_nil ?_
   refine r_true rfl ?_
   refine r_seq ?_
   refine r_region ?_
   refine l_a rfl ?_
   refine l_nil ?_
   refine r_ret (rs := [.tmp 6]) [_] Tryz.func19 rfl ⟨rfl, trivial⟩ ?_
   exact ⟨_, rfl, S2.le⟩
  refine l_x rfl (x_fieldAddr rfl Tryz.runUnderlying25 rfl Tryz.sizeOf22 (by decide)) ?_
  refine l_x rfl (x_load rfl (ld_blk (S2.blk 0 rfl) Tryz.isAgg22 rfl)) ?_
  refine l_x rfl (x_len (hB.m.le S2.le) rfl Tryz.runUnderlying22) ?_
  refine l_x rfl (x_gtr rfl rfl) ?_
  refine l_x rfl (x_pick_f rfl rfl) ?_
  refine l_m rfl ?_
  refine l_splitd (d := 23) rfl (fun hg23 => ?_) (fun hg23 => ?_)
  ·skip
   refine l_pass rfl ?_
   refine l_pass rfl ?_
   refine l_pass rfl ?_
   refine l_pass rfl ?_
   refine l_x rfl (x_pick_t rfl rfl) ?_
   refine l_nil ?_
   refine r_true rfl ?_
   refine r_seq ?_
   refine r_region ?_
   refine l_a rfl ?_
   refine l_nil ?_
   refine r_ret (rs := [.tmp 6]) [_] Tryz.func19 rfl ⟨rfl, trivial⟩ ?_
   exact ⟨_, rfl, S2.le⟩
  refine l_x rfl (x_fieldAddr rfl Tryz.runUnderlying25 rfl Tryz.sizeOf23 (by decide)) ?_
  refine l_x rfl (x_load rfl (ld_blk (S2.blk 0 rfl) Tryz.isAgg23 rfl)) ?_
  refine l_x rfl (x_len (hB.f.le S2.le) rfl Tryz.runUnderlying23) ?_
  refine l_x rfl (x_gtr rfl rfl) ?_
  refine l_x rfl (x_pick_f rfl rfl) ?_
  refine l_nil ?_
  refine r_ifd rfl (fun hc28 => ?_) (fun hc28 => ?_)
  ·skip
   refine r_seq ?_
   refine r_region ?_
   refine l_a rfl ?_
   refine l_nil ?_
   refine r_ret (rs := [.tmp 6]) [_] Tryz.func19 rfl ⟨rfl, trivial⟩ ?_
   exact ⟨_, rfl, S2.le⟩
  refine r_skip ?_
  refine r_seq ?_
  refine r_region ?_
  refine l_m rfl ?_
  refine l_x rfl (x_len (hF.le S2.le) rfl Tryz.runUnderlying50) ?_
  refine l_x rfl (x_leq rfl rfl) ?_
  refine l_m rfl ?_
  refine l_splitd (d := 32) rfl (fun hg32 => ?_) (fun hg32 => ?_)
  ·skip
   refine l_pass rfl ?_
   refine l_pass rfl ?_
   refine l_pass rfl ?_
   refine l_pass rfl ?_
   refine l_pass rfl ?_
   refine l_pass rfl ?_
   refine l_pass rfl ?_
   refine l_pass rfl ?_
   refine l_x rfl (x_pick_t rfl rfl) ?_
   refine l_m rfl ?_
   refine l_m rfl ?_
   refine l_x rfl (x_len (hC.le S2.le) rfl Tryz.runUnderlying51) ?_
   refine l_x rfl (x_leq rfl rfl) ?_
   refine l_m rfl ?_
   refine l_splitd (d := 46) rfl (fun hg46 => ?_) (fun hg46 => ?_)
   ·skip
    refine l_pass rfl ?_
    refine l_pass rfl ?_
    refine l_pass rfl ?_
    refine l_pass rfl ?_
    refine l_pass rfl ?_
    refine l_pass rfl ?_
    refine l_pass rfl ?_
    refine l_pass rfl ?_
    refine l_x rfl (x_pick_t rfl rfl) ?_
    refine l_x rfl (x_pick_t rfl rfl) ?_
    refine l_a rfl ?_
    refine l_nil ?_
    refine r_ret (rs := [.tmp 6]) [_] Tryz.func19 rfl ⟨rfl, trivial⟩ ?_
    exact ⟨_, rfl, S2.le⟩
   refine l_m rfl ?_
   refine l_x rfl (x_len (hC.le S2.le) rfl Tryz.runUnderlying51) ?_
   refine l_x rfl (x_gtr rfl rfl) ?_
   refine l_m rfl ?_
   refine l_splitd (d := 50) rfl (fun hg50 => ?_) (fun hg50 => ?_)
   ·skip
    refine l_m rfl ?_
    refine l_x rfl (x_len (hC.le S2.le) rfl Tryz.runUnderlying51) ?_
    refine l_x rfl (x_leq rfl rfl) ?_
    refine l_x rfl (x_pick_t rfl rfl) ?_
    refine l_x rfl (x_pick_f rfl rfl) ?_
    refine l_x rfl (x_pick_t rfl rfl) ?_
    refine l_a rfl ?_
    refine l_nil ?_
    refine r_ret (rs := [.tmp 6]) [_] Tryz.func19 rfl ⟨rfl, trivial⟩ ?_
    exact ⟨_, rfl, S2.le⟩
   refine l_pass rfl ?_
   refine l_pass rfl ?_
   refine l_pass rfl ?_
   refine l_x rfl (x_pick_f rfl rfl) ?_
   refine l_x rfl (x_pick_f rfl rfl) ?_
   refine l_x rfl (x_pick_t rfl rfl) ?_
   refine l_a rfl ?_
   refine l_nil ?_
   refine r_ret (rs := [.tmp 6]) [_] Tryz.func19 rfl ⟨rfl, trivial⟩ ?_
   exact ⟨_, rfl, S2.le⟩
  refine l_m rfl ?_
  refine l_x rfl (x_len (hF.le S2.le) rfl Tryz.runUnderlying50) ?_
  refine l_x rfl (x_gtr rfl rfl) ?_
  refine l_m rfl ?_
  refine l_splitd (d := 36) rfl (fun hg36 => ?_) (fun hg36 => ?_)
  ·skip
   refine l_m rfl ?_
   refine l_x rfl (x_len (hF.le S2.le) rfl Tryz.runUnderlying50) ?_
   refine l_x rfl (x_leq rfl rfl) ?_
   refine l_x rfl (x_pick_t rfl rfl) ?_
   refine l_x rfl (x_pick_f rfl rfl) ?_
   refine l_m rfl ?_
   refine l_splitd (d := 42) rfl (fun hg42 => ?_) (fun hg42 => ?_)
   ·skip
    refine l_m rfl ?_
    refine l_x rfl (x_len (hC.le S2.le) rfl Tryz.runUnderlying51) ?_
    refine l_x rfl (x_leq rfl rfl) ?_
    refine l_m rfl ?_
    refine l_splitd (d := 46) rfl (fun hg46 => ?_) (fun hg46 => ?_)
    ·skip
     refine l_pass rfl ?_
     refine l_pass rfl ?_
     refine l_pass rfl ?_
     refine l_pass rfl ?_
     refine l_pass rfl ?_
     refine l_pass rfl ?_
     refine l_pass rfl ?_
     refine l_pass rfl ?_
     refine l_x rfl (x_pick_t rfl rfl) ?_
     refine l_x rfl (x_pick_t rfl rfl) ?_
     refine l_a rfl ?_
     refine l_nil ?_
     refine r_ret (rs := [.tmp 6]) [_] Tryz.func19 rfl ⟨rfl, trivial⟩ ?_
     exact ⟨_, rfl, S2.le⟩
    refine l_m rfl ?_
    refine l_x rfl (x_len (hC.le S2.le) rfl Tryz.runUnderlying51) ?_
    refine l_x rfl (x_gtr rfl rfl) ?_
    refine l_m rfl ?_
    refine l_splitd (d := 50) rfl (fun hg50 => ?_) (fun hg50 => ?_)
    ·skip
     refine l_m rfl ?_
     refine l_x rfl (x_len (hC.le S2.le) rfl Tryz.runUnderlying51) ?_
     refine l_x rfl (x_leq rfl rfl) ?_
     refine l_x rfl (x_pick_t rfl rfl) ?_
     refine l_x rfl (x_pick_f rfl rfl) ?_
     refine l_x rfl (x_pick_t rfl rfl) ?_
     refine l_a rfl ?_
     refine l_nil ?_
     refine r_ret (rs := [.tmp 6]) [_] Tryz.func19 rfl ⟨rfl, trivial⟩ ?_
     exact ⟨_, rfl, S2.le⟩
    refine l_pass rfl ?_
    refine l_pass rfl ?_
    refine l_pass rfl ?_
    refine l_x rfl (x_pick_f rfl rfl) ?_
    refine l_x rfl (x_pick_f rfl rfl) ?_
    refine l_x rfl (x_pick_t rfl rfl) ?_
    refine l_a rfl ?_
    refine l_nil ?_
    refine r_ret (rs := [.tmp 6]) [_] Tryz.func19 rfl ⟨rfl, trivial⟩ ?_
    exact ⟨_, rfl, S2.le⟩
   refine l_pass rfl ?_
   refine l_pass rfl ?_
   refine l_pass rfl ?_
   refine l_pass rfl ?_
   refine l_pass rfl ?_
   refine l_pass rfl ?_
   refine l_pass rfl ?_
   refine l_pass rfl ?_
   refine l_pass rfl ?_
   refine l_pass rfl ?_
   refine l_pass rfl ?_
   refine l_pass rfl ?_
   refine l_pass rfl ?_
   refine l_x rfl (x_pick_f rfl rfl) ?_
   refine l_a rfl ?_
   refine l_nil ?_
   refine r_ret (rs := [.tmp 6]) [_] Tryz.func19 rfl ⟨rfl, trivial⟩ ?_
   exact ⟨_, rfl, S2.le⟩
  refine l_pass rfl ?_
  refine l_pass rfl ?_
  refine l_pass rfl ?_
  refine l_x rfl (x_pick_f rfl rfl) ?_
  refine l_x rfl (x_pick_f rfl rfl) ?_
  refine l_m rfl ?_
  refine l_pass rfl ?_
  refine l_pass rfl ?_
  refine l_pass rfl ?_
  refine l_pass rfl ?_
  refine l_pass rfl ?_
  refine l_pass rfl ?_
  refine l_pass rfl ?_
  refine l_pass rfl ?_
  refine l_pass rfl ?_
  refine l_pass rfl ?_
  refine l_pass rfl ?_
  refine l_pass rfl ?_
  refine l_pass rfl ?_
  refine l_x rfl (x_pick_f rfl rfl) ?_
  refine l_a rfl ?_
  refine l_nil ?_
  refine r_ret (rs := [.tmp 6]) [_] Tryz.func19 rfl ⟨rfl, trivial⟩ ?_
  exact ⟨_, rfl, S2.le⟩
 refine l_pass rfl ?_
 refine l_pass rfl ?_
 refine l_pass rfl ?_
 refine l_pass rfl ?_
 refine l_x rfl (x_pick_f rfl rfl) ?_
 refine l_m rfl ?_
 refine l_x rfl (x_fieldAddr rfl Tryz.runUnderlying25 rfl Tryz.sizeOf22 (by decide)) ?_
 refine l_x rfl (x_load rfl (ld_blk (S2.blk 0 rfl) Tryz.isAgg22 rfl)) ?_
 refine l_x rfl (x_len (hB.m.le S2.le) rfl Tryz.runUnderlying22) ?_
 refine l_x rfl (x_gtr rfl rfl) ?_
 refine l_x rfl (x_pick_f rfl rfl) ?_
 refine l_m rfl ?_
 refine l_splitd (d := 23) rfl (fun hg23 => ?_) (fun hg23 => ?_)
 ·skip
  refine l_pass rfl ?_
  refine l_pass rfl ?_
  refine l_pass rfl ?_
  refine l_pass rfl ?_
  refine l_x rfl (x_pick_t rfl rfl) ?_
  refine l_nil ?_
  refine r_true rfl ?_
  refine r_seq ?_
  refine r_region ?_
  refine l_a rfl ?_
  refine l_nil ?_
  refine r_ret (rs := [.tmp 6]) [_] Tryz.func19 rfl ⟨rfl, trivial⟩ ?_
  exact ⟨_, rfl, S2.le⟩
 refine l_x rfl (x_fieldAddr rfl Tryz.runUnderlying25 rfl Tryz.sizeOf23 (by decide)) ?_
 refine l_x rfl (x_load rfl (ld_blk (S2.blk 0 rfl) Tryz.isAgg23 rfl)) ?_
 refine l_x rfl (x_len (hB.f.le S2.le) rfl Tryz.runUnderlying23) ?_
 refine l_x rfl (x_gtr rfl rfl) ?_
 refine l_x rfl (x_pick_f rfl rfl) ?_
 refine l_nil ?_
 refine r_ifd rfl (fun hc28 => ?_) (fun hc28 => ?_)
 ·skip
  refine r_seq ?_
  refine r_region ?_
  refine l_a rfl ?_
  refine l_nil ?_
  refine r_ret (rs := [.tmp 6]) [_] Tryz.func19 rfl ⟨rfl, trivial⟩ ?_
  exact ⟨_, rfl, S2.le⟩
 refine r_skip ?_
 refine r_seq ?_
 refine r_region ?_
 refine l_m rfl ?_
 refine l_x rfl (x_len (hF.le S2.le) rfl Tryz.runUnderlying50) ?_
 refine l_x rfl (x_leq rfl rfl) ?_
 refine l_m rfl ?_
 refine l_splitd (d := 32) rfl (fun hg32 => ?_) (fun hg32 => ?_)
 ·skip
  refine l_pass rfl ?_
  refine l_pass rfl ?_
  refine l_pass rfl ?_
  refine l_pass rfl ?_
  refine l_pass rfl ?_
  refine l_pass rfl ?_
  refine l_pass rfl ?_
  refine l_pass rfl ?_
  refine l_x rfl (x_pick_t rfl rfl) ?_
  refine l_m rfl ?_
  refine l_m rfl ?_
  refine l_x rfl (x_len (hC.le S2.le) rfl Tryz.runUnderlying51) ?_
  refine l_x rfl (x_leq rfl rfl) ?_
  refine l_m rfl ?_
  refine l_splitd (d := 46) rfl (fun hg46 => ?_) (fun hg46 => ?_)
  ·skip
   refine l_pass rfl ?_
   refine l_pass rfl ?_
   refine l_pass rfl ?_
   refine l_pass rfl ?_
   refine l_pass rfl ?_
   refine l_pass rfl ?_
   refine l_pass rfl ?_
   refine l_pass rfl ?_
   refine l_x rfl (x_pick_t rfl rfl) ?_
   refine l_x rfl (x_pick_t rfl rfl) ?_
   refine l_a rfl ?_
   refine l_nil ?_
   refine r_ret (rs := [.tmp 6]) [_] Tryz.func19 rfl ⟨rfl, trivial⟩ ?_
   exact ⟨_, rfl, S2.le⟩
  refine l_m rfl ?_
  refine l_x rfl (x_len (hC.le S2.le) rfl Tryz.runUnderlying51) ?_
  refine l_x rfl (x_gtr rfl rfl) ?_
  refine l_m rfl ?_
  refine l_splitd (d := 50) rfl (fun hg50 => ?_) (fun hg50 => ?_)
  ·skip
   refine l_m rfl ?_
   refine l_x rfl (x_len (hC.le S2.le) rfl Tryz.runUnderlying51) ?_
   refine l_x rfl (x_leq rfl rfl) ?_
   refine l_x rfl (x_pick_t rfl rfl) ?_
   refine l_x rfl (x_pick_f rfl rfl) ?_
   refine l_x rfl (x_pick_t rfl rfl) ?_
   refine l_a rfl ?_
   refine l_nil ?_
   refine r_ret (rs := [.tmp 6]) [_] Tryz.func19 rfl ⟨rfl, trivial⟩ ?_
   exact ⟨_, rfl, S2.le⟩
  refine l_pass rfl ?_
  refine l_pass rfl ?_
  refine l_pass rfl ?_
  refine l_x rfl (x_pick_f rfl rfl) ?_
  refine l_x rfl (x_pick_f rfl rfl) ?_
  refine l_x rfl (x_pick_t rfl rfl) ?_
  refine l_a rfl ?_
  refine l_nil ?_
  refine r_ret (rs := [.tmp 6]) [_] Tryz.func19 rfl ⟨rfl, trivial⟩ ?_
  exact ⟨_, rfl, S2.le⟩
 refine l_m rfl ?_
 refine l_x rfl (x_len (hF.le S2.le) rfl Tryz.runUnderlying50) ?_
 refine l_x rfl (x_gtr rfl rfl) ?_
 refine l_m rfl ?_
 refine l_splitd (d := 36) rfl (fun hg36 => ?_) (fun hg36 => ?_)
 ·skip
  refine l_m rfl ?_
  refine l_x rfl (x_len (hF.le S2.le) rfl Tryz.runUnderlying50) ?_
  refine l_x rfl (x_leq rfl rfl) ?_
  refine l_x rfl (x_pick_t rfl rfl) ?_
  refine l_x rfl (x_pick_f rfl rfl) ?_
  refine l_m rfl ?_
  refine l_splitd (d := 42) rfl (fun hg42 => ?_) (fun hg42 => ?_)
  ·skip
   refine l_m rfl ?_
   refine l_x rfl (x_len (hC.le S2.le) rfl Tryz.runUnderlying51) ?_
   refine l_x rfl (x_leq rfl rfl) ?_
   refine l_m rfl ?_
   refine l_splitd (d := 46) rfl (fun hg46 => ?_) (fun hg46 => ?_)
   ·skip
    refine l_pass rfl ?_
    refine l_pass rfl ?_
    refine l_pass rfl ?_
    refine l_pass rfl ?_
    refine l_pass rfl ?_
    refine l_pass rfl ?_
    refine l_pass rfl ?_
    refine l_pass rfl ?_
    refine l_x rfl (x_pick_t rfl rfl) ?_
    refine l_x rfl (x_pick_t rfl rfl) ?_
    refine l_a rfl ?_
    refine l_nil ?_
    refine r_ret (rs := [.tmp 6]) [_] Tryz.func19 rfl ⟨rfl, trivial⟩ ?_
    exact ⟨_, rfl, S2.le⟩
   refine l_m rfl ?_
   refine l_x rfl (x_len (hC.le S2.le) rfl Tryz.runUnderlying51) ?_
   refine l_x rfl (x_gtr rfl rfl) ?_
   refine l_m rfl ?_
   refine l_splitd (d := 50) rfl (fun hg50 => ?_) (fun hg50 => ?_)
   ·skip
    refine l_m rfl ?_
    refine l_x rfl (x_len (hC.le S2.le) rfl Tryz.runUnderlying51) ?_
    refine l_x rfl (x_leq rfl rfl) ?_
    refine l_x rfl (x_pick_t rfl rfl) ?_
    refine l_x rfl (x_pick_f rfl rfl) ?_
    refine l_x rfl (x_pick_t rfl rfl) ?_
    refine l_a rfl ?_
    refine l_nil ?_
    refine r_ret (rs := [.tmp 6]) [_] Tryz.func19 rfl ⟨rfl, trivial⟩ ?_
    exact ⟨_, rfl, S2.le⟩
   refine l_pass rfl ?_
   refine l_pass rfl ?_
   refine l_pass rfl ?_
   refine l_x rfl (x_pick_f rfl rfl) ?_
   refine l_x rfl (x_pick_f rfl rfl) ?_
   refine l_x rfl (x_pick_t rfl rfl) ?_
   refine l_a rfl ?_
   refine l_nil ?_
   refine r_ret (rs := [.tmp 6]) [_] Tryz.func19 rfl ⟨rfl, trivial⟩ ?_
   exact ⟨_, rfl, S2.le⟩
  refine l_pass rfl ?_
  refine l_pass rfl ?_
  refine l_pass rfl ?_
  refine l_pass rfl ?_
  refine l_pass rfl ?_
  refine l_pass rfl ?_
  refine l_pass rfl ?_
  refine l_pass rfl ?_
  refine l_pass rfl ?_
  refine l_pass rfl ?_
  refine l_pass rfl ?_
  refine l_pass rfl ?_
  refine l_pass rfl ?_
  refine l_x rfl (x_pick_f rfl rfl) ?_
  refine l_a rfl ?_
  refine l_nil ?_
  refine r_ret (rs := [.tmp 6]) [_] Tryz.func19 rfl ⟨rfl, trivial⟩ ?_
  exact ⟨_, rfl, S2.le⟩
 refine l_pass rfl ?_
 refine l_pass rfl ?_
 refine l_pass rfl ?_
 refine l_x rfl (x_pick_f rfl rfl) ?_
 refine l_x rfl (x_pick_f rfl rfl) ?_
 refine l_m rfl ?_
 refine l_pass rfl ?_
 refine l_pass rfl ?_
 refine l_pass rfl ?_
 refine l_pass rfl ?_
 refine l_pass rfl ?_
 refine l_pass rfl ?_
 refine l_pass rfl ?_
 refine l_pass rfl ?_
 refine l_pass rfl ?_
 refine l_pass rfl ?_
 refine l_pass rfl ?_
 refine l_pass rfl ?_
 refine l_pass rfl ?_
 refine l_x rfl (x_pick_f rfl rfl) ?_
 refine l_a rfl ?_
 refine l_nil ?_
 refine r_ret (rs := [.tmp 6]) [_] Tryz.func19 rfl ⟨rfl, trivial⟩ ?_
 exact ⟨_, rfl, S2.le⟩

end Go.Proofs
