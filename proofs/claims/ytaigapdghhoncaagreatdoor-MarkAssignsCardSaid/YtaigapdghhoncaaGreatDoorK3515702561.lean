/- Texts joined for claims: G12, G13, M28, G7, G4. -/
import Derived.Test.YtaigapdghhoncaaGreatDoorKe90fc102f4
import Derived.Test.YtaigapdghhoncaaGreatDoorK1001926d45
set_option linter.unusedVariables false
set_option linter.unusedSimpArgs false
set_option linter.unusedSectionVars false
namespace Go.Proofs
open Go Go.Vk Go.Vk.Flow

open Go.Vk.Mark
open Go.Vk.Deed (i64 rng rng_iff owners sumI sumI_cons sumI_snoc)

theorem begin_bd {b : Sm} {day : Int} {r : Bool} {found : List Sg} {cs : List Clm} (h : beginE b day r found cs = 0) : ∀ c ∈ cs, 0 ≤ c.number ∧ c.number ≤ 60 := fun c hc => by
 have := (claim_ok (begin_parts h).2.2).2.1 c hc
 unfold claimB at this
 rw [Bool.and_eq_true, rng_iff] at this
 exact this.2

set_option maxHeartbeats 8000000 in
theorem c_rAssign (b : Sm) (vm vf : Value) (day : Int) (found : List Sg) (vs : Value) (cq : List Clm) (vq : Value) (hm : found.length ≤ 9223372036854775807) (hmc : cq.length ≤ 9223372036854775807) (w : World) (hB : SmR 39 41 w vm vf b) (hF : Rd ESG w vs found) (hC : Rd ECL w vq cq) :
  Cl Tryz.prog 28 #[.agg #[vm, vf], Value.int .i64 day, vs, vq] w fun v w' => (∃ e, e ≠ 0 ∧ v = .tuple #[.slice none 0 0, .bool false, .int .i64 e] ∧ e = beginE b day true found cq ∧ Le w w') ∨ (beginE b day true found cq = 0 ∧ metB (fs b day found) cq = false ∧ v = .tuple #[.slice none 0 0, .bool false, .int .i64 0] ∧ Le w w') ∨ (beginE b day true found cq = 0 ∧ metB (fs b day found) cq = true ∧ ∃ s, v = .tuple #[s, .bool true, .int .i64 0] ∧ New w w' (vec EI s (assignS (fs b day found) cq)) ∧ Le w w') := by
 refine fn_of_run (args := [_, _, _, _]) 101 Tryz.func28 rfl rfl rfl fun cs => ?_
 have S := Own.start (X := nob) w
 refine r_seq ?_
 refine r_region ?_
 refine l_box S rfl rfl ?_
 intro b4 w1 S2 hl3
 refine l_a rfl ?_
 refine l_a rfl ?_
 refine l_a rfl ?_
 refine l_nil ?_
 refine r_seq ?_
 refine r_region ?_
 refine l_x rfl (x_load rfl (ld_blks (S2.blk 0 rfl) Tryz.isAgg25 Tryz.sizeOf25 rfl rfl)) ?_
 refine l_m rfl ?_
 refine l_m rfl ?_
 refine l_m rfl ?_
 refine l_call [] [] [_, _, _, _, _] rfl rfl Tryz.call94 rfl (c_rbegin b vm vf day [] _ (by decide) found vs hm cq vq hmc _ (hB.le S2.le) rd_nil (hF.le S2.le) (hC.le S2.le)) ?_
 rintro _ w5 ⟨rfl, hl7⟩
 have S6 := S2.step hl7
 refine l_a rfl ?_
 refine l_nil ?_
 refine r_seq ?_
 refine r_seq ?_
 refine r_region ?_
 refine l_m rfl ?_
 refine l_x rfl (x_neq rfl rfl) ?_
 refine l_nil ?_
 refine r_ifd rfl (fun hc25 => ?_) (fun hc25 => ?_)
 ·skip
  refine r_seq ?_
  refine r_region ?_
  refine l_m rfl ?_
  refine l_a rfl ?_
  refine l_a rfl ?_
  refine l_a rfl ?_
  refine l_nil ?_
  refine r_ret (rs := [.tmp 8, .tmp 9, .tmp 10]) [_, _, _] Tryz.func28 rfl ⟨rfl, rfl, rfl, trivial⟩ ?_
  exact .inl ⟨_, hc25, rfl, rfl, S6.le⟩
 have hb : beginE b day true found cq = 0 := Decidable.not_not.1 hc25
 have hf60 := bench_len hb
 have hR0 := fun h => RasI.start hb h
 have hcl := (claim_ok (begin_parts hb).2.2).1
 have hcbd := begin_bd hb
 refine r_skip ?_
 refine r_seq ?_
 refine r_seq ?_
 refine r_region ?_
 refine l_x rfl (x_load rfl (ld_blks (S6.blk 0 rfl) Tryz.isAgg25 Tryz.sizeOf25 rfl rfl)) ?_
 refine l_m rfl ?_
 refine l_m rfl ?_
 refine l_m rfl ?_
 refine l_call [] [] [_, _, _, _] rfl rfl Tryz.call95 rfl (c_rmet b vm vf day found vs cq vq hf60 hcl hcbd _ (hB.le S6.le) (hF.le S6.le) (hC.le S6.le)) ?_
 rintro _ w8 ⟨rfl, hl10⟩
 have S9 := S6.step hl10
 refine l_x rfl (x_not rfl) ?_
 refine l_nil ?_
 refine r_if rfl (fun hc32 => ?_) (fun hc32 => ?_)
 ·skip
  refine r_seq ?_
  refine r_region ?_
  refine l_a rfl ?_
  refine l_a rfl ?_
  refine l_a rfl ?_
  refine l_nil ?_
  refine r_ret (rs := [.tmp 8, .tmp 9, .tmp 10]) [_, _, _] Tryz.func28 rfl ⟨rfl, rfl, rfl, trivial⟩ ?_
  exact .inr (.inl ⟨hb, by simpa using hc32, rfl, S9.le⟩)
 have hm0 : metB (fs b day found) cq = true := by simpa using hc32
 refine r_skip ?_
 refine r_seq ?_
 refine r_region ?_
 refine l_a rfl ?_
 have S11 := S9.nilvec (E := EI)
 refine l_nil ?_
 refine r_seq ?_
 refine r_region ?_
 refine l_m rfl ?_
 refine l_a rfl ?_
 refine l_nil ?_
 refine r_seq ?_
 refine r_seq ?_
 refine r_region ?_
 refine l_a rfl ?_
 refine l_nil ?_
 refine r_block ?_
 refine r_loop (G := Nat × Value × List Int × Value × List Clm × Bool) (fun ⟨i, vo, ol, vl, lf, fl⟩ => found.length - i) (fun ⟨i, vo, ol, vl, lf, fl⟩ => [(1, Value.int .i64 day), (2, vs), (4, .pointer (some ⟨b4, 0, none⟩)), (12, vo), (13, vl), (14, Value.int .i64 i)]) (fun ⟨i, vo, ol, vl, lf, fl⟩ w' => (i ≤ found.length) ∧ (RasI b day found cq i ol lf) ∧ (fl = true → vq = vl ∧ cq = lf) ∧ Own nob w w' [blk b4 [vm, vf] 25, vec EI vo ol, cond fl (pack []) (vec ECL vl lf)]) (0, .slice none 0 0, [], vq, cq, true) ⟨rfl, rfl, rfl, rfl, rfl, rfl, trivial⟩ ⟨Nat.zero_le _, RasI.start hb hm0, fun _ => ⟨rfl, rfl⟩, (Own.pack (A := [_, _]) (L := []) (S11.pick (L' := [_, _]) [0, 1] (by decide) rfl))⟩ ?_
 rintro ⟨i, vo, ol, vl, lf, fl⟩ ρ w1 ⟨hi, hR, hfl, S1⟩ IH
 refine r_seq ?_
 refine r_seq ?_
 refine r_region ?_
 refine l_m rfl ?_
 refine l_m rfl ?_
 refine l_x rfl (x_len (hF.le S1.le) rfl Tryz.runUnderlying50) ?_
 refine l_x rfl (x_lss rfl rfl) ?_
 refine l_nil ?_
 refine r_ifd rfl (fun hc37 => ?_) (fun hc37 => ?_)
 ·skip
  obtain ⟨t, ha⟩ : ∃ t, found[i]? = some t := ⟨_, List.getElem?_eq_getElem (by omega)⟩
  refine r_skip ?_
  refine r_seq ?_
  refine r_block ?_
  refine r_seq ?_
  rcases fl with _ | _
  ·skip
   refine r_region ?_
   refine l_a rfl ?_
   refine l_nil ?_
   refine r_seq ?_
   refine r_region ?_
   refine l_m rfl ?_
   refine l_m rfl ?_
   refine l_x rfl (x_add rfl rfl (by omega)) ?_
   refine l_tailR (hF.le S1.le) rfl rfl rfl Tryz.runUnderlying50 Tryz.sizeOf30 (by omega) ?_
   intro v12 ht13
   refine l_a rfl ?_
   refine l_nil ?_
   refine r_seq ?_
   refine r_seq ?_
   refine r_region ?_
   refine l_x rfl (x_load rfl (ld_blks (S1.blk 0 rfl) Tryz.isAgg25 Tryz.sizeOf25 rfl rfl)) ?_
   refine l_m rfl ?_
   refine l_m rfl ?_
   refine l_m rfl ?_
   refine l_call [] [] [_, _, _, _] rfl rfl Tryz.call95 rfl (c_rmet b vm vf day (found.drop (i + 1)) _ lf _ (by rw [List.length_drop]; omega) hR.len hR.bd _ (hB.le S1.le) (tailR_rd ht13 (hF.le S1.le)) (vec_rd (S1.at 2 rfl))) ?_
   rintro _ w14 ⟨rfl, hl16⟩
   have S15 := S1.step hl16
   refine l_x rfl (x_not rfl) ?_
   refine l_nil ?_
   refine r_if rfl (fun hc49 => ?_) (fun hc49 => ?_)
   ·skip
    have hm9 : metB (fs b day (found.drop (i + 1))) lf = false := by simpa using hc49
    refine r_seq ?_
    refine r_seq ?_
    refine r_region ?_
    refine l_a rfl ?_
    refine l_nil ?_
    refine r_block ?_
    refine r_loop (G := Nat × Option Int) (fun ⟨n, fo⟩ => 40 - n) (fun ⟨n, fo⟩ => [(1, Value.int .i64 day), (2, vs), (4, .pointer (some ⟨b4, 0, none⟩)), (12, vo), (13, vl), (14, Value.int .i64 i), (15, Value.int .i64 (fo.getD 0)), (16, v12), (17, Value.int .i64 ((n : Int) + 1))]) (fun ⟨n, fo⟩ w' => (n ≤ 40) ∧ (fo = none → ∀ q : Nat, q < n → mayGive (fitsO b day t) (fs b day (found.drop (i + 1))) lf ((q : Int) + 1) = false) ∧ (∀ z, fo = some z → owners.find? (mayGive (fitsO b day t) (fs b day (found.drop (i + 1))) lf) = some z) ∧ Own nob w w' [blk b4 [vm, vf] 25, vec EI vo ol, vec ECL vl lf]) (0, none) ⟨rfl, rfl, rfl, rfl, rfl, rfl, rfl, rfl, rfl, trivial⟩ ⟨Nat.zero_le _, (fun _ q h => absurd h (Nat.not_lt_zero q)), (fun z h => by cases h), (S15.take 3)⟩ ?_
    rintro ⟨n, fo⟩ ρ w1b ⟨hn, hno, hso, S1b⟩ IHb
    refine r_seq ?_
    refine r_seq ?_
    refine r_region ?_
    refine l_m rfl ?_
    refine l_x rfl (x_leq rfl rfl) ?_
    refine l_m rfl ?_
    refine l_splitd (d := 52) rfl (fun hg52 => ?_) (fun hg52 => ?_)
    ·skip
     refine l_m rfl ?_
     refine l_x rfl (x_eql rfl rfl) ?_
     refine l_x rfl (x_pick_t rfl rfl) ?_
     refine l_nil ?_
     refine r_ifd rfl (fun hc55 => ?_) (fun hc55 => ?_)
     ·skip
      obtain rfl : fo = none := by
       cases fo with
       | none => rfl
       | some z => have h9 := find_one (hso z rfl); simp at hc55; omega
      refine r_skip ?_
      refine r_seq ?_
      refine r_block ?_
      refine r_seq ?_
      refine r_region ?_
      refine l_m rfl ?_
      refine l_m rfl ?_
      refine l_call [] [] [_, _] rfl rfl Tryz.call96 rfl (c_rclaimed lf _ ((n : Int) + 1) (by have := hR.len; omega) _ (vec_rd (S1b.at 2 rfl))) ?_
      rintro _ w17 ⟨rfl, hl19⟩
      have S18 := S1b.step hl19
      refine l_a rfl ?_
      refine l_nil ?_
      refine r_seq ?_
      rcases ix_casesG (fun a : Clm => decide (a.owner = (n : Int) + 1)) lf with ⟨hn9, -⟩ | ⟨k, c, hk, hc, -⟩
      ·skip
       refine r_slot 18 (.int .i64 (-1)) (congrArg (Value.int .i64) hn9) ?_
       refine r_drawE 29 nob Tryz.mixed (by kernel_rfl) ?_
       intro w20 hl21
       have S22 := S18.step hl21
       refine e_exact 0 _ (by kernel_rfl) rfl rfl (by kernel_rfl) rfl (ex_x rfl (fun w1 h1 => x_mv rfl)) ?_
       refine e_exact 1 _ (by kernel_rfl) rfl rfl (by kernel_rfl) rfl (ex_x rfl (fun w1 h1 => x_geq rfl rfl)) ?_
       refine e_exact 2 _ (by kernel_rfl) rfl rfl (by kernel_rfl) rfl (ex_x rfl (fun w1 h1 => x_mv rfl)) ?_
       refine e_splitd (d := 63) rfl (fun hg63 => ?_) (fun hg63 => ?_)
       ·omega
       refine e_exact 3 _ (by kernel_rfl) rfl rfl (by kernel_rfl) rfl (ex_pass rfl) ?_
       refine e_exact 4 _ (by kernel_rfl) rfl rfl (by kernel_rfl) rfl (ex_pass rfl) ?_
       refine e_exact 5 _ (by kernel_rfl) rfl rfl (by kernel_rfl) rfl (ex_pass rfl) ?_
       refine e_exact 6 _ (by kernel_rfl) rfl rfl (by kernel_rfl) rfl (ex_pass rfl) ?_
       refine e_exact 7 _ (by kernel_rfl) rfl rfl (by kernel_rfl) rfl (ex_pass rfl) ?_
       refine e_exact 8 _ (by kernel_rfl) rfl rfl (by kernel_rfl) rfl (ex_pass rfl) ?_
       refine e_exact 9 _ (by kernel_rfl) rfl rfl (by kernel_rfl) rfl (ex_x rfl (fun w1 h1 => x_pick_f rfl rfl)) ?_
       refine e_exact 10 _ (by kernel_rfl) rfl rfl (by kernel_rfl) rfl (ex_x rfl (fun w1 h1 => x_mv rfl)) ?_
       refine e_exact 11 _ (by kernel_rfl) rfl rfl (by kernel_rfl) rfl (ex_pass rfl) ?_
       refine e_exact 12 _ (by kernel_rfl) rfl rfl (by kernel_rfl) rfl (ex_pass rfl) ?_
       refine e_exact 13 _ (by kernel_rfl) rfl rfl (by kernel_rfl) rfl (ex_pass rfl) ?_
       refine e_exact 14 _ (by kernel_rfl) rfl rfl (by kernel_rfl) rfl (ex_pass rfl) ?_
       refine e_exact 15 _ (by kernel_rfl) rfl rfl (by kernel_rfl) rfl (ex_pass rfl) ?_
       refine e_exact 16 _ (by kernel_rfl) rfl rfl (by kernel_rfl) rfl (ex_pass rfl) ?_
       refine e_exact 17 _ (by kernel_rfl) rfl rfl (by kernel_rfl) rfl (ex_pass rfl) ?_
       refine e_exact 18 _ (by kernel_rfl) rfl rfl (by kernel_rfl) rfl (ex_pass rfl) ?_
       refine e_exact 19 _ (by kernel_rfl) rfl rfl (by kernel_rfl) rfl (ex_x rfl (fun w1 h1 => x_pick_f rfl rfl)) ?_
       refine e_exact 20 _ (by kernel_rfl) rfl rfl (by kernel_rfl) rfl (ex_x rfl (fun w1 h1 => x_mv rfl)) ?_
       refine e_exact 21 _ (by kernel_rfl) rfl rfl (by kernel_rfl) rfl (ex_pass rfl) ?_
       refine e_exact 22 _ (by kernel_rfl) rfl rfl (by kernel_rfl) rfl (ex_pass rfl) ?_
       refine e_exact 23 _ (by kernel_rfl) rfl rfl (by kernel_rfl) rfl (ex_pass rfl) ?_
       refine e_exact 24 _ (by kernel_rfl) rfl rfl (by kernel_rfl) rfl (ex_pass rfl) ?_
       refine e_exact 25 _ (by kernel_rfl) rfl rfl (by kernel_rfl) rfl (ex_pass rfl) ?_
       refine e_exact 26 _ (by kernel_rfl) rfl rfl (by kernel_rfl) rfl (ex_pass rfl) ?_
       refine e_exact 27 _ (by kernel_rfl) rfl rfl (by kernel_rfl) rfl (ex_pass rfl) ?_
       refine e_exact 28 _ (by kernel_rfl) rfl rfl (by kernel_rfl) rfl (ex_x rfl (fun w1 h1 => x_pick_f rfl rfl)) ?_
       refine e_done (by kernel_rfl) ?_
       refine l_nil ?_
       refine r_false rfl ?_
       refine r_skip ?_
       refine r_inBlock ?_
       refine r_region ?_
       refine l_m rfl ?_
       refine l_x rfl (x_add rfl rfl (by omega)) ?_
       refine l_a rfl ?_
       refine l_nil ?_
       exact IHb (n + 1, none) _ _ (by dsimp only; omega) ⟨rfl, rfl, rfl, rfl, rfl, rfl, rfl, rfl, rfl, trivial⟩ ⟨by omega, (fun _ => no_step9 (P := fun q : Nat => mayGive (fitsO b day t) (fs b day (found.drop (i + 1))) lf ((q : Int) + 1)) (hno rfl) (may_no hn9)), (fun z hz => by cases hz), (S22.take 3)⟩
      refine r_slot 18 (.int .i64 (k : Int)) (congrArg (Value.int .i64) hk) ?_
      have hkl := (List.getElem?_eq_some_iff.1 hc).1
      refine r_drawE 29 nob Tryz.mixed (by kernel_rfl) ?_
      intro w23 hl24
      have S25 := S18.step hl24
      refine e_exact 0 _ (by kernel_rfl) rfl rfl (by kernel_rfl) rfl (ex_x rfl (fun w1 h1 => x_mv rfl)) ?_
      refine e_exact 1 _ (by kernel_rfl) rfl rfl (by kernel_rfl) rfl (ex_x rfl (fun w1 h1 => x_geq rfl rfl)) ?_
      refine e_exact 2 _ (by kernel_rfl) rfl rfl (by kernel_rfl) rfl (ex_x rfl (fun w1 h1 => x_mv rfl)) ?_
      refine e_splitd (d := 63) rfl (fun hg63 => ?_) (fun hg63 => ?_)
      ·skip
       refine e_exact 3 _ (by kernel_rfl) rfl rfl (by kernel_rfl) rfl (ex_x rfl (fun w1 h1 => x_mv rfl)) ?_
       refine e_exact 4 _ (by kernel_rfl) rfl rfl (by kernel_rfl) rfl (ex_x rfl (fun w1 h1 => x_mv rfl)) ?_
       refine e_index ECL 5 (by kernel_rfl) rfl rfl (by kernel_rfl) rfl rfl (vec_rd (S25.at 2 rfl)) rfl rfl Tryz.runUnderlying51 Tryz.sizeOf83 (by omega) hc ?_
       intro b26 o27 hat28
       refine e_exact 6 _ (by kernel_rfl) rfl rfl (by kernel_rfl) rfl (ex_x rfl (fun w1 h1 => x_fieldAddr rfl Tryz.runUnderlying83 rfl Tryz.sizeOf3 (by decide))) ?_
       refine e_exact 7 _ (by kernel_rfl) rfl rfl (by kernel_rfl) rfl (ex_x rfl (fun w1 h1 => x_load rfl (ld_cell Tryz.isAgg3 ((rd_row (vec_rd ((S25.step h1).at 2 rfl)) hat28 hc) 1 _ rfl)))) ?_
       refine e_exact 8 _ (by kernel_rfl) rfl rfl (by kernel_rfl) rfl (ex_x rfl (fun w1 h1 => x_gtr rfl rfl)) ?_
       refine e_exact 9 _ (by kernel_rfl) rfl rfl (by kernel_rfl) rfl (ex_x rfl (fun w1 h1 => x_pick_t rfl rfl)) ?_
       refine e_exact 10 _ (by kernel_rfl) rfl rfl (by kernel_rfl) rfl (ex_x rfl (fun w1 h1 => x_mv rfl)) ?_
       refine e_splitd (d := 71) rfl (fun hg71 => ?_) (fun hg71 => ?_)
       ·skip
        refine e_exact 11 _ (by kernel_rfl) rfl rfl (by kernel_rfl) rfl (ex_x rfl (fun w1 h1 => x_load rfl (ld_blks ((S25.step h1).blk 0 rfl) Tryz.isAgg25 Tryz.sizeOf25 rfl rfl))) ?_
        refine e_exact 12 _ (by kernel_rfl) rfl rfl (by kernel_rfl) rfl (ex_x rfl (fun w1 h1 => x_mv rfl)) ?_
        refine e_exact 13 _ (by kernel_rfl) rfl rfl (by kernel_rfl) rfl (ex_x rfl (fun w1 h1 => x_mv rfl)) ?_
        refine e_exact 14 _ (by kernel_rfl) rfl rfl (by kernel_rfl) rfl (ex_x rfl (fun w1 h1 => x_mv rfl)) ?_
        refine e_index ESG 15 (by kernel_rfl) rfl rfl (by kernel_rfl) rfl rfl (hF.le S25.le) rfl rfl Tryz.runUnderlying50 Tryz.sizeOf30 (by omega) ha ?_
        intro b29 o30 hat31
        refine e_exact 16 _ (by kernel_rfl) rfl rfl (by kernel_rfl) rfl (ex_x rfl (fun w1 h1 => x_load rfl (ld_row Tryz.isAgg30 Tryz.sizeOf30 rfl (rd_row (hF.le (S25.step h1).le) hat31 ha)))) ?_
        refine e_exact 17 _ (by kernel_rfl) rfl rfl (by kernel_rfl) rfl (ex_x rfl (fun w1 h1 => x_mv rfl)) ?_
        refine e_next [18] (by kernel_rfl) (by kernel_rfl) ⟨⟨_, _, rfl, rfl, ?_⟩, trivial⟩
        refine s_callf [] [] [_, _, _, _] rfl rfl Tryz.call97 rfl ((c_rfits b vm vf day ((n : Int) + 1) t _ (hB.le S25.le)).mono ?_)
        rintro _ w32 ⟨rfl, hl34⟩
        have S33 := S25.step hl34
        refine ⟨.of_le hl34, ?_⟩
        refine e_exact 19 _ (by kernel_rfl) rfl rfl (by kernel_rfl) rfl (ex_x rfl (fun w1 h1 => x_pick_t rfl rfl)) ?_
        refine e_exact 20 _ (by kernel_rfl) rfl rfl (by kernel_rfl) rfl (ex_x rfl (fun w1 h1 => x_mv rfl)) ?_
        refine e_split (d := 81) rfl (fun hg81 => ?_) (fun hg81 => ?_)
        ·skip
         refine e_exact 21 _ (by kernel_rfl) rfl rfl (by kernel_rfl) rfl (ex_x rfl (fun w1 h1 => x_load rfl (ld_blks ((S33.step h1).blk 0 rfl) Tryz.isAgg25 Tryz.sizeOf25 rfl rfl))) ?_
         refine e_exact 22 _ (by kernel_rfl) rfl rfl (by kernel_rfl) rfl (ex_x rfl (fun w1 h1 => x_mv rfl)) ?_
         refine e_exact 23 _ (by kernel_rfl) rfl rfl (by kernel_rfl) rfl (ex_x rfl (fun w1 h1 => x_mv rfl)) ?_
         refine e_exact 24 _ (by kernel_rfl) rfl rfl (by kernel_rfl) rfl (ex_x rfl (fun w1 h1 => x_mv rfl)) ?_
         refine e_exact 25 _ (by kernel_rfl) rfl rfl (by kernel_rfl) rfl (ex_x rfl (fun w1 h1 => x_mv rfl)) ?_
         refine e_next [26] (by kernel_rfl) (by kernel_rfl) ⟨⟨_, _, rfl, rfl, ?_⟩, trivial⟩
         refine s_callf [] [] [_, _] rfl rfl Tryz.call98 rfl ((c_rless lf _ hR.len k c hc (by have := hR.bd c (List.mem_of_getElem? hc); omega) _ (vec_rd (S33.at 2 rfl))).mono ?_)
         rintro v8735 w35 ⟨hN8735, hl8735⟩
         have S36 := S33.add hl8735 hN8735
         refine ⟨.of_le hl8735, ?_⟩
         refine e_next [27] (by kernel_rfl) (by kernel_rfl) ⟨⟨_, _, rfl, rfl, ?_⟩, trivial⟩
         refine s_callf [] [] [_, _, _, _] rfl rfl Tryz.call95 rfl ((c_rmet b vm vf day (found.drop (i + 1)) _ (giveC lf k 1) _ (by rw [List.length_drop]; omega) (by rw [giveC_len]; exact hR.len) (giveC_bd hc (by omega) hR.bd) _ (hB.le S36.le) (tailR_rd ht13 (hF.le S36.le)) (vec_rd (S36.at 3 rfl))).mono ?_)
         rintro _ w37 ⟨rfl, hl39⟩
         have S38 := S36.step hl39
         refine ⟨.of_le hl39, ?_⟩
         refine e_exact 28 _ (by kernel_rfl) rfl rfl (by kernel_rfl) rfl (ex_x rfl (fun w1 h1 => x_pick_t rfl rfl)) ?_
         refine e_done (by kernel_rfl) ?_
         refine l_nil ?_
         refine r_if rfl (fun hc89 => ?_) (fun hc89 => ?_)
         ·skip
          refine r_region ?_
          refine l_m rfl ?_
          refine l_a rfl ?_
          refine l_nil ?_
          refine r_inBlock ?_
          refine r_region ?_
          refine l_m rfl ?_
          refine l_x rfl (x_add rfl rfl (by omega)) ?_
          refine l_a rfl ?_
          refine l_nil ?_
          exact IHb (n + 1, some ((n : Int) + 1)) _ _ (by dsimp only; omega) ⟨rfl, rfl, rfl, rfl, rfl, rfl, rfl, rfl, rfl, trivial⟩ ⟨by omega, (fun h => by cases h), (fun z hz => by cases hz; exact find_owners (by omega) (hno rfl) (by rw [may_at hR.ap hk hc]; simp_all <;> omega)), (S38.take 3)⟩
         refine r_skip ?_
         refine r_inBlock ?_
         refine r_region ?_
         refine l_m rfl ?_
         refine l_x rfl (x_add rfl rfl (by omega)) ?_
         refine l_a rfl ?_
         refine l_nil ?_
         exact IHb (n + 1, none) _ _ (by dsimp only; omega) ⟨rfl, rfl, rfl, rfl, rfl, rfl, rfl, rfl, rfl, trivial⟩ ⟨by omega, (fun _ => no_step9 (P := fun q : Nat => mayGive (fitsO b day t) (fs b day (found.drop (i + 1))) lf ((q : Int) + 1)) (hno rfl) ((by rw [may_at hR.ap hk hc]; simp_all <;> omega))), (fun z hz => by cases hz), (S38.take 3)⟩
        refine e_exact 21 _ (by kernel_rfl) rfl rfl (by kernel_rfl) rfl (ex_pass rfl) ?_
        refine e_exact 22 _ (by kernel_rfl) rfl rfl (by kernel_rfl) rfl (ex_pass rfl) ?_
        refine e_exact 23 _ (by kernel_rfl) rfl rfl (by kernel_rfl) rfl (ex_pass rfl) ?_
        refine e_exact 24 _ (by kernel_rfl) rfl rfl (by kernel_rfl) rfl (ex_pass rfl) ?_
        refine e_exact 25 _ (by kernel_rfl) rfl rfl (by kernel_rfl) rfl (ex_pass rfl) ?_
        refine e_exact 26 _ (by kernel_rfl) rfl rfl (by kernel_rfl) rfl (ex_pass rfl) ?_
        refine e_exact 27 _ (by kernel_rfl) rfl rfl (by kernel_rfl) rfl (ex_pass rfl) ?_
        refine e_exact 28 _ (by kernel_rfl) rfl rfl (by kernel_rfl) rfl (ex_x rfl (fun w1 h1 => x_pick_f rfl rfl)) ?_
        refine e_done (by kernel_rfl) ?_
        refine l_nil ?_
        refine r_false rfl ?_
        refine r_skip ?_
        refine r_inBlock ?_
        refine r_region ?_
        refine l_m rfl ?_
        refine l_x rfl (x_add rfl rfl (by omega)) ?_
        refine l_a rfl ?_
        refine l_nil ?_
        exact IHb (n + 1, none) _ _ (by dsimp only; omega) ⟨rfl, rfl, rfl, rfl, rfl, rfl, rfl, rfl, rfl, trivial⟩ ⟨by omega, (fun _ => no_step9 (P := fun q : Nat => mayGive (fitsO b day t) (fs b day (found.drop (i + 1))) lf ((q : Int) + 1)) (hno rfl) ((by rw [may_at hR.ap hk hc]; simp_all <;> omega))), (fun z hz => by cases hz), (S33.take 3)⟩
       refine e_exact 11 _ (by kernel_rfl) rfl rfl (by kernel_rfl) rfl (ex_pass rfl) ?_
       refine e_exact 12 _ (by kernel_rfl) rfl rfl (by kernel_rfl) rfl (ex_pass rfl) ?_
       refine e_exact 13 _ (by kernel_rfl) rfl rfl (by kernel_rfl) rfl (ex_pass rfl) ?_
       refine e_exact 14 _ (by kernel_rfl) rfl rfl (by kernel_rfl) rfl (ex_pass rfl) ?_
       refine e_exact 15 _ (by kernel_rfl) rfl rfl (by kernel_rfl) rfl (ex_pass rfl) ?_
       refine e_exact 16 _ (by kernel_rfl) rfl rfl (by kernel_rfl) rfl (ex_pass rfl) ?_
       refine e_exact 17 _ (by kernel_rfl) rfl rfl (by kernel_rfl) rfl (ex_pass rfl) ?_
       refine e_exact 18 _ (by kernel_rfl) rfl rfl (by kernel_rfl) rfl (ex_pass rfl) ?_
       refine e_exact 19 _ (by kernel_rfl) rfl rfl (by kernel_rfl) rfl (ex_x rfl (fun w1 h1 => x_pick_f rfl rfl)) ?_
       refine e_exact 20 _ (by kernel_rfl) rfl rfl (by kernel_rfl) rfl (ex_x rfl (fun w1 h1 => x_mv rfl)) ?_
       refine e_exact 21 _ (by kernel_rfl) rfl rfl (by kernel_rfl) rfl (ex_pass rfl) ?_
       refine e_exact 22 _ (by kernel_rfl) rfl rfl (by kernel_rfl) rfl (ex_pass rfl) ?_
       refine e_exact 23 _ (by kernel_rfl) rfl rfl (by kernel_rfl) rfl (ex_pass rfl) ?_
       refine e_exact 24 _ (by kernel_rfl) rfl rfl (by kernel_rfl) rfl (ex_pass rfl) ?_
       refine e_exact 25 _ (by kernel_rfl) rfl rfl (by kernel_rfl) rfl (ex_pass rfl) ?_
       refine e_exact 26 _ (by kernel_rfl) rfl rfl (by kernel_rfl) rfl (ex_pass rfl) ?_
       refine e_exact 27 _ (by kernel_rfl) rfl rfl (by kernel_rfl) rfl (ex_pass rfl) ?_
       refine e_exact 28 _ (by kernel_rfl) rfl rfl (by kernel_rfl) rfl (ex_x rfl (fun w1 h1 => x_pick_f rfl rfl)) ?_
       refine e_done (by kernel_rfl) ?_
       refine l_nil ?_
       refine r_false rfl ?_
       refine r_skip ?_
       refine r_inBlock ?_
       refine r_region ?_
       refine l_m rfl ?_
       refine l_x rfl (x_add rfl rfl (by omega)) ?_
       refine l_a rfl ?_
       refine l_nil ?_
       exact IHb (n + 1, none) _ _ (by dsimp only; omega) ⟨rfl, rfl, rfl, rfl, rfl, rfl, rfl, rfl, rfl, trivial⟩ ⟨by omega, (fun _ => no_step9 (P := fun q : Nat => mayGive (fitsO b day t) (fs b day (found.drop (i + 1))) lf ((q : Int) + 1)) (hno rfl) ((by rw [may_at hR.ap hk hc]; simp_all <;> omega))), (fun z hz => by cases hz), (S25.take 3)⟩
      omega
     obtain ⟨z, rfl⟩ : ∃ z, fo = some z := by
      cases fo with
      | none => first | exact absurd rfl hc55 | exact (hR.pick ha hm9 (fun q hq => hno rfl q (by omega))).elim
      | some z => exact ⟨z, rfl⟩
     refine r_exit rfl ?_
     obtain ⟨k, c, hk, hc, hn0, hm2, hle⟩ := find_may hR.ap (hso z rfl)
     refine r_region ?_
     refine l_m rfl ?_
     refine l_m rfl ?_
     refine l_m rfl ?_
     refine l_call [] [] [_, _] rfl rfl Tryz.call96 rfl ((c_rclaimed lf _ z (by have := hR.len; omega) _ (vec_rd (S1b.at 2 rfl))).mono (fun v w' h => (⟨h.1.trans (congrArg (Value.int .i64) hk), h.2⟩ : v = .int .i64 (k : Int) ∧ Le _ w'))) ?_
     rintro _ w40 ⟨rfl, hl42⟩
     have S41 := S1b.step hl42
     refine l_call [] [] [_, _] rfl rfl Tryz.call98 rfl (c_rless lf _ hR.len k c hc (by have := hR.bd c (List.mem_of_getElem? hc); omega) _ (vec_rd (S41.at 2 rfl))) ?_
     rintro v9543 w43 ⟨hN9543, hl9543⟩
     have S44 := S41.add hl9543 hN9543
     refine l_a rfl ?_
     refine l_nil ?_
     refine r_region ?_
     refine l_m rfl ?_
     refine l_m rfl ?_
     refine l_buildSlice EI [z] S44 rfl Tryz.runUnderlying52 Tryz.sizeOf3 Tryz.zeroValue3 rfl ⟨rfl, rfl, trivial⟩ (Nat.le_of_ble_eq_true rfl) ?_
     intro v48 w45 S46 hl47
     refine l_append EI S46 1 rfl rfl rfl rfl (vec_rd (S46.at 4 rfl)) Tryz.underlying52 info3 rfl rfl rfl (by have := hR.ol; unfold maxLen; rw [List.length_singleton]; omega) (by have := hR.ol; rw [List.length_singleton]; show _ * 8 ≤ _; omega) ?_
     intro v52 w49 S50 hk51 hv53
     refine l_a rfl ?_
     refine l_nil ?_
     refine r_inBlock ?_
     refine r_region ?_
     refine l_m rfl ?_
     refine l_x rfl (x_add rfl rfl (by omega)) ?_
     refine l_a rfl ?_
     refine l_nil ?_
     exact IH (i + 1, v52, ol ++ [z], v9543, lessC lf z, false) _ _ (by dsimp only; omega) ⟨rfl, rfl, rfl, rfl, rfl, rfl, trivial⟩ ⟨by omega, hR.give9 ha hm9 (hso z rfl), (fun h => by cases h), (by have h := S50.pick (L' := [_, _, _]) [0, 1, 3] (by decide) rfl; rw [hle] at h; exact h)⟩
    obtain ⟨z, rfl⟩ : ∃ z, fo = some z := by
     cases fo with
     | none => exact (hR.pick ha hm9 (fun q hq => hno rfl q (by omega))).elim
     | some z => exact ⟨z, rfl⟩
    refine l_pass rfl ?_
    refine l_pass rfl ?_
    refine l_x rfl (x_pick_f rfl rfl) ?_
    refine l_nil ?_
    refine r_false rfl ?_
    refine r_exit rfl ?_
    obtain ⟨k, c, hk, hc, hn0, hm2, hle⟩ := find_may hR.ap (hso z rfl)
    refine r_region ?_
    refine l_m rfl ?_
    refine l_m rfl ?_
    refine l_m rfl ?_
    refine l_call [] [] [_, _] rfl rfl Tryz.call96 rfl ((c_rclaimed lf _ z (by have := hR.len; omega) _ (vec_rd (S1b.at 2 rfl))).mono (fun v w' h => (⟨h.1.trans (congrArg (Value.int .i64) hk), h.2⟩ : v = .int .i64 (k : Int) ∧ Le _ w'))) ?_
    rintro _ w54 ⟨rfl, hl56⟩
    have S55 := S1b.step hl56
    refine l_call [] [] [_, _] rfl rfl Tryz.call98 rfl (c_rless lf _ hR.len k c hc (by have := hR.bd c (List.mem_of_getElem? hc); omega) _ (vec_rd (S55.at 2 rfl))) ?_
    rintro v9557 w57 ⟨hN9557, hl9557⟩
    have S58 := S55.add hl9557 hN9557
    refine l_a rfl ?_
    refine l_nil ?_
    refine r_region ?_
    refine l_m rfl ?_
    refine l_m rfl ?_
    refine l_buildSlice EI [z] S58 rfl Tryz.runUnderlying52 Tryz.sizeOf3 Tryz.zeroValue3 rfl ⟨rfl, rfl, trivial⟩ (Nat.le_of_ble_eq_true rfl) ?_
    intro v62 w59 S60 hl61
    refine l_append EI S60 1 rfl rfl rfl rfl (vec_rd (S60.at 4 rfl)) Tryz.underlying52 info3 rfl rfl rfl (by have := hR.ol; unfold maxLen; rw [List.length_singleton]; omega) (by have := hR.ol; rw [List.length_singleton]; show _ * 8 ≤ _; omega) ?_
    intro v66 w63 S64 hk65 hv67
    refine l_a rfl ?_
    refine l_nil ?_
    refine r_inBlock ?_
    refine r_region ?_
    refine l_m rfl ?_
    refine l_x rfl (x_add rfl rfl (by omega)) ?_
    refine l_a rfl ?_
    refine l_nil ?_
    exact IH (i + 1, v66, ol ++ [z], v9557, lessC lf z, false) _ _ (by dsimp only; omega) ⟨rfl, rfl, rfl, rfl, rfl, rfl, trivial⟩ ⟨by omega, hR.give9 ha hm9 (hso z rfl), (fun h => by cases h), (by have h := S64.pick (L' := [_, _, _]) [0, 1, 3] (by decide) rfl; rw [hle] at h; exact h)⟩
   have hm9 : metB (fs b day (found.drop (i + 1))) lf = true := by simpa using hc49
   refine r_skip ?_
   refine r_region ?_
   refine l_m rfl ?_
   refine l_m rfl ?_
   refine l_buildSlice EI [0] S15 rfl Tryz.runUnderlying52 Tryz.sizeOf3 Tryz.zeroValue3 rfl ⟨rfl, rfl, trivial⟩ (Nat.le_of_ble_eq_true rfl) ?_
   intro v71 w68 S69 hl70
   refine l_append EI S69 1 rfl rfl rfl rfl (vec_rd (S69.at 3 rfl)) Tryz.underlying52 info3 rfl rfl rfl (by have := hR.ol; unfold maxLen; rw [List.length_singleton]; omega) (by have := hR.ol; rw [List.length_singleton]; show _ * 8 ≤ _; omega) ?_
   intro v75 w72 S73 hk74 hv76
   refine l_a rfl ?_
   refine l_nil ?_
   refine r_inBlock ?_
   refine r_region ?_
   refine l_m rfl ?_
   refine l_x rfl (x_add rfl rfl (by omega)) ?_
   refine l_a rfl ?_
   refine l_nil ?_
   exact IH (i + 1, v75, ol ++ [0], vl, lf, false) _ _ (by dsimp only; omega) ⟨rfl, rfl, rfl, rfl, rfl, rfl, trivial⟩ ⟨by omega, hR.stay ha hm9, (fun h => by cases h), (S73.take 3)⟩
  obtain ⟨rfl, rfl⟩ := hfl rfl
  refine r_region ?_
  refine l_a rfl ?_
  refine l_nil ?_
  refine r_seq ?_
  refine r_region ?_
  refine l_m rfl ?_
  refine l_m rfl ?_
  refine l_x rfl (x_add rfl rfl (by omega)) ?_
  refine l_tailR (hF.le S1.le) rfl rfl rfl Tryz.runUnderlying50 Tryz.sizeOf30 (by omega) ?_
  intro v77 ht78
  refine l_a rfl ?_
  refine l_nil ?_
  refine r_seq ?_
  refine r_seq ?_
  refine r_region ?_
  refine l_x rfl (x_load rfl (ld_blks (S1.blk 0 rfl) Tryz.isAgg25 Tryz.sizeOf25 rfl rfl)) ?_
  refine l_m rfl ?_
  refine l_m rfl ?_
  refine l_m rfl ?_
  refine l_call [] [] [_, _, _, _] rfl rfl Tryz.call95 rfl (c_rmet b vm vf day (found.drop (i + 1)) _ cq _ (by rw [List.length_drop]; omega) hR.len hR.bd _ (hB.le S1.le) (tailR_rd ht78 (hF.le S1.le)) (hC.le S1.le)) ?_
  rintro _ w79 ⟨rfl, hl81⟩
  have S80 := S1.step hl81
  refine l_x rfl (x_not rfl) ?_
  refine l_nil ?_
  refine r_if rfl (fun hc49 => ?_) (fun hc49 => ?_)
  ·skip
   have hm9 : metB (fs b day (found.drop (i + 1))) cq = false := by simpa using hc49
   refine r_seq ?_
   refine r_seq ?_
   refine r_region ?_
   refine l_a rfl ?_
   refine l_nil ?_
   refine r_block ?_
   refine r_loop (G := Nat × Option Int) (fun ⟨n, fo⟩ => 40 - n) (fun ⟨n, fo⟩ => [(1, Value.int .i64 day), (2, vs), (4, .pointer (some ⟨b4, 0, none⟩)), (12, vo), (13, vq), (14, Value.int .i64 i), (15, Value.int .i64 (fo.getD 0)), (16, v77), (17, Value.int .i64 ((n : Int) + 1))]) (fun ⟨n, fo⟩ w' => (n ≤ 40) ∧ (fo = none → ∀ q : Nat, q < n → mayGive (fitsO b day t) (fs b day (found.drop (i + 1))) cq ((q : Int) + 1) = false) ∧ (∀ z, fo = some z → owners.find? (mayGive (fitsO b day t) (fs b day (found.drop (i + 1))) cq) = some z) ∧ Own nob w w' [blk b4 [vm, vf] 25, vec EI vo ol]) (0, none) ⟨rfl, rfl, rfl, rfl, rfl, rfl, rfl, rfl, rfl, trivial⟩ ⟨Nat.zero_le _, (fun _ q h => absurd h (Nat.not_lt_zero q)), (fun z h => by cases h), (S80.take 2)⟩ ?_
   rintro ⟨n, fo⟩ ρ w1b ⟨hn, hno, hso, S1b⟩ IHb
   refine r_seq ?_
   refine r_seq ?_
   refine r_region ?_
   refine l_m rfl ?_
   refine l_x rfl (x_leq rfl rfl) ?_
   refine l_m rfl ?_
   refine l_splitd (d := 52) rfl (fun hg52 => ?_) (fun hg52 => ?_)
   ·skip
    refine l_m rfl ?_
    refine l_x rfl (x_eql rfl rfl) ?_
    refine l_x rfl (x_pick_t rfl rfl) ?_
    refine l_nil ?_
    refine r_ifd rfl (fun hc55 => ?_) (fun hc55 => ?_)
    ·skip
     obtain rfl : fo = none := by
      cases fo with
      | none => rfl
      | some z => have h9 := find_one (hso z rfl); simp at hc55; omega
     refine r_skip ?_
     refine r_seq ?_
     refine r_block ?_
     refine r_seq ?_
     refine r_region ?_
     refine l_m rfl ?_
     refine l_m rfl ?_
     refine l_call [] [] [_, _] rfl rfl Tryz.call96 rfl (c_rclaimed cq _ ((n : Int) + 1) (by have := hR.len; omega) _ (hC.le S1b.le)) ?_
     rintro _ w82 ⟨rfl, hl84⟩
     have S83 := S1b.step hl84
     refine l_a rfl ?_
     refine l_nil ?_
     refine r_seq ?_
     rcases ix_casesG (fun a : Clm => decide (a.owner = (n : Int) + 1)) cq with ⟨hn9, -⟩ | ⟨k, c, hk, hc, -⟩
     ·skip
      refine r_slot 18 (.int .i64 (-1)) (congrArg (Value.int .i64) hn9) ?_
      refine r_drawE 29 nob Tryz.mixed (by kernel_rfl) ?_
      intro w85 hl86
      have S87 := S83.step hl86
      refine e_exact 0 _ (by kernel_rfl) rfl rfl (by kernel_rfl) rfl (ex_x rfl (fun w1 h1 => x_mv rfl)) ?_
      refine e_exact 1 _ (by kernel_rfl) rfl rfl (by kernel_rfl) rfl (ex_x rfl (fun w1 h1 => x_geq rfl rfl)) ?_
      refine e_exact 2 _ (by kernel_rfl) rfl rfl (by kernel_rfl) rfl (ex_x rfl (fun w1 h1 => x_mv rfl)) ?_
      refine e_splitd (d := 63) rfl (fun hg63 => ?_) (fun hg63 => ?_)
      ·omega
      refine e_exact 3 _ (by kernel_rfl) rfl rfl (by kernel_rfl) rfl (ex_pass rfl) ?_
      refine e_exact 4 _ (by kernel_rfl) rfl rfl (by kernel_rfl) rfl (ex_pass rfl) ?_
      refine e_exact 5 _ (by kernel_rfl) rfl rfl (by kernel_rfl) rfl (ex_pass rfl) ?_
      refine e_exact 6 _ (by kernel_rfl) rfl rfl (by kernel_rfl) rfl (ex_pass rfl) ?_
      refine e_exact 7 _ (by kernel_rfl) rfl rfl (by kernel_rfl) rfl (ex_pass rfl) ?_
      refine e_exact 8 _ (by kernel_rfl) rfl rfl (by kernel_rfl) rfl (ex_pass rfl) ?_
      refine e_exact 9 _ (by kernel_rfl) rfl rfl (by kernel_rfl) rfl (ex_x rfl (fun w1 h1 => x_pick_f rfl rfl)) ?_
      refine e_exact 10 _ (by kernel_rfl) rfl rfl (by kernel_rfl) rfl (ex_x rfl (fun w1 h1 => x_mv rfl)) ?_
      refine e_exact 11 _ (by kernel_rfl) rfl rfl (by kernel_rfl) rfl (ex_pass rfl) ?_
      refine e_exact 12 _ (by kernel_rfl) rfl rfl (by kernel_rfl) rfl (ex_pass rfl) ?_
      refine e_exact 13 _ (by kernel_rfl) rfl rfl (by kernel_rfl) rfl (ex_pass rfl) ?_
      refine e_exact 14 _ (by kernel_rfl) rfl rfl (by kernel_rfl) rfl (ex_pass rfl) ?_
      refine e_exact 15 _ (by kernel_rfl) rfl rfl (by kernel_rfl) rfl (ex_pass rfl) ?_
      refine e_exact 16 _ (by kernel_rfl) rfl rfl (by kernel_rfl) rfl (ex_pass rfl) ?_
      refine e_exact 17 _ (by kernel_rfl) rfl rfl (by kernel_rfl) rfl (ex_pass rfl) ?_
      refine e_exact 18 _ (by kernel_rfl) rfl rfl (by kernel_rfl) rfl (ex_pass rfl) ?_
      refine e_exact 19 _ (by kernel_rfl) rfl rfl (by kernel_rfl) rfl (ex_x rfl (fun w1 h1 => x_pick_f rfl rfl)) ?_
      refine e_exact 20 _ (by kernel_rfl) rfl rfl (by kernel_rfl) rfl (ex_x rfl (fun w1 h1 => x_mv rfl)) ?_
      refine e_exact 21 _ (by kernel_rfl) rfl rfl (by kernel_rfl) rfl (ex_pass rfl) ?_
      refine e_exact 22 _ (by kernel_rfl) rfl rfl (by kernel_rfl) rfl (ex_pass rfl) ?_
      refine e_exact 23 _ (by kernel_rfl) rfl rfl (by kernel_rfl) rfl (ex_pass rfl) ?_
      refine e_exact 24 _ (by kernel_rfl) rfl rfl (by kernel_rfl) rfl (ex_pass rfl) ?_
      refine e_exact 25 _ (by kernel_rfl) rfl rfl (by kernel_rfl) rfl (ex_pass rfl) ?_
      refine e_exact 26 _ (by kernel_rfl) rfl rfl (by kernel_rfl) rfl (ex_pass rfl) ?_
      refine e_exact 27 _ (by kernel_rfl) rfl rfl (by kernel_rfl) rfl (ex_pass rfl) ?_
      refine e_exact 28 _ (by kernel_rfl) rfl rfl (by kernel_rfl) rfl (ex_x rfl (fun w1 h1 => x_pick_f rfl rfl)) ?_
      refine e_done (by kernel_rfl) ?_
      refine l_nil ?_
      refine r_false rfl ?_
      refine r_skip ?_
      refine r_inBlock ?_
      refine r_region ?_
      refine l_m rfl ?_
      refine l_x rfl (x_add rfl rfl (by omega)) ?_
      refine l_a rfl ?_
      refine l_nil ?_
      exact IHb (n + 1, none) _ _ (by dsimp only; omega) ⟨rfl, rfl, rfl, rfl, rfl, rfl, rfl, rfl, rfl, trivial⟩ ⟨by omega, (fun _ => no_step9 (P := fun q : Nat => mayGive (fitsO b day t) (fs b day (found.drop (i + 1))) cq ((q : Int) + 1)) (hno rfl) (may_no hn9)), (fun z hz => by cases hz), (S87.take 2)⟩
     refine r_slot 18 (.int .i64 (k : Int)) (congrArg (Value.int .i64) hk) ?_
     have hkl := (List.getElem?_eq_some_iff.1 hc).1
     refine r_drawE 29 nob Tryz.mixed (by kernel_rfl) ?_
     intro w88 hl89
     have S90 := S83.step hl89
     refine e_exact 0 _ (by kernel_rfl) rfl rfl (by kernel_rfl) rfl (ex_x rfl (fun w1 h1 => x_mv rfl)) ?_
     refine e_exact 1 _ (by kernel_rfl) rfl rfl (by kernel_rfl) rfl (ex_x rfl (fun w1 h1 => x_geq rfl rfl)) ?_
     refine e_exact 2 _ (by kernel_rfl) rfl rfl (by kernel_rfl) rfl (ex_x rfl (fun w1 h1 => x_mv rfl)) ?_
     refine e_splitd (d := 63) rfl (fun hg63 => ?_) (fun hg63 => ?_)
     ·skip
      refine e_exact 3 _ (by kernel_rfl) rfl rfl (by kernel_rfl) rfl (ex_x rfl (fun w1 h1 => x_mv rfl)) ?_
      refine e_exact 4 _ (by kernel_rfl) rfl rfl (by kernel_rfl) rfl (ex_x rfl (fun w1 h1 => x_mv rfl)) ?_
      refine e_index ECL 5 (by kernel_rfl) rfl rfl (by kernel_rfl) rfl rfl (hC.le S90.le) rfl rfl Tryz.runUnderlying51 Tryz.sizeOf83 (by omega) hc ?_
      intro b91 o92 hat93
      refine e_exact 6 _ (by kernel_rfl) rfl rfl (by kernel_rfl) rfl (ex_x rfl (fun w1 h1 => x_fieldAddr rfl Tryz.runUnderlying83 rfl Tryz.sizeOf3 (by decide))) ?_
      refine e_exact 7 _ (by kernel_rfl) rfl rfl (by kernel_rfl) rfl (ex_x rfl (fun w1 h1 => x_load rfl (ld_cell Tryz.isAgg3 ((rd_row (hC.le (S90.step h1).le) hat93 hc) 1 _ rfl)))) ?_
      refine e_exact 8 _ (by kernel_rfl) rfl rfl (by kernel_rfl) rfl (ex_x rfl (fun w1 h1 => x_gtr rfl rfl)) ?_
      refine e_exact 9 _ (by kernel_rfl) rfl rfl (by kernel_rfl) rfl (ex_x rfl (fun w1 h1 => x_pick_t rfl rfl)) ?_
      refine e_exact 10 _ (by kernel_rfl) rfl rfl (by kernel_rfl) rfl (ex_x rfl (fun w1 h1 => x_mv rfl)) ?_
      refine e_splitd (d := 71) rfl (fun hg71 => ?_) (fun hg71 => ?_)
      ·skip
       refine e_exact 11 _ (by kernel_rfl) rfl rfl (by kernel_rfl) rfl (ex_x rfl (fun w1 h1 => x_load rfl (ld_blks ((S90.step h1).blk 0 rfl) Tryz.isAgg25 Tryz.sizeOf25 rfl rfl))) ?_
       refine e_exact 12 _ (by kernel_rfl) rfl rfl (by kernel_rfl) rfl (ex_x rfl (fun w1 h1 => x_mv rfl)) ?_
       refine e_exact 13 _ (by kernel_rfl) rfl rfl (by kernel_rfl) rfl (ex_x rfl (fun w1 h1 => x_mv rfl)) ?_
       refine e_exact 14 _ (by kernel_rfl) rfl rfl (by kernel_rfl) rfl (ex_x rfl (fun w1 h1 => x_mv rfl)) ?_
       refine e_index ESG 15 (by kernel_rfl) rfl rfl (by kernel_rfl) rfl rfl (hF.le S90.le) rfl rfl Tryz.runUnderlying50 Tryz.sizeOf30 (by omega) ha ?_
       intro b94 o95 hat96
       refine e_exact 16 _ (by kernel_rfl) rfl rfl (by kernel_rfl) rfl (ex_x rfl (fun w1 h1 => x_load rfl (ld_row Tryz.isAgg30 Tryz.sizeOf30 rfl (rd_row (hF.le (S90.step h1).le) hat96 ha)))) ?_
       refine e_exact 17 _ (by kernel_rfl) rfl rfl (by kernel_rfl) rfl (ex_x rfl (fun w1 h1 => x_mv rfl)) ?_
       refine e_next [18] (by kernel_rfl) (by kernel_rfl) ⟨⟨_, _, rfl, rfl, ?_⟩, trivial⟩
       refine s_callf [] [] [_, _, _, _] rfl rfl Tryz.call97 rfl ((c_rfits b vm vf day ((n : Int) + 1) t _ (hB.le S90.le)).mono ?_)
       rintro _ w97 ⟨rfl, hl99⟩
       have S98 := S90.step hl99
       refine ⟨.of_le hl99, ?_⟩
       refine e_exact 19 _ (by kernel_rfl) rfl rfl (by kernel_rfl) rfl (ex_x rfl (fun w1 h1 => x_pick_t rfl rfl)) ?_
       refine e_exact 20 _ (by kernel_rfl) rfl rfl (by kernel_rfl) rfl (ex_x rfl (fun w1 h1 => x_mv rfl)) ?_
       refine e_split (d := 81) rfl (fun hg81 => ?_) (fun hg81 => ?_)
       ·skip
        refine e_exact 21 _ (by kernel_rfl) rfl rfl (by kernel_rfl) rfl (ex_x rfl (fun w1 h1 => x_load rfl (ld_blks ((S98.step h1).blk 0 rfl) Tryz.isAgg25 Tryz.sizeOf25 rfl rfl))) ?_
        refine e_exact 22 _ (by kernel_rfl) rfl rfl (by kernel_rfl) rfl (ex_x rfl (fun w1 h1 => x_mv rfl)) ?_
        refine e_exact 23 _ (by kernel_rfl) rfl rfl (by kernel_rfl) rfl (ex_x rfl (fun w1 h1 => x_mv rfl)) ?_
        refine e_exact 24 _ (by kernel_rfl) rfl rfl (by kernel_rfl) rfl (ex_x rfl (fun w1 h1 => x_mv rfl)) ?_
        refine e_exact 25 _ (by kernel_rfl) rfl rfl (by kernel_rfl) rfl (ex_x rfl (fun w1 h1 => x_mv rfl)) ?_
        refine e_next [26] (by kernel_rfl) (by kernel_rfl) ⟨⟨_, _, rfl, rfl, ?_⟩, trivial⟩
        refine s_callf [] [] [_, _] rfl rfl Tryz.call98 rfl ((c_rless cq _ hR.len k c hc (by have := hR.bd c (List.mem_of_getElem? hc); omega) _ (hC.le S98.le)).mono ?_)
        rintro v87100 w100 ⟨hN87100, hl87100⟩
        have S101 := S98.add hl87100 hN87100
        refine ⟨.of_le hl87100, ?_⟩
        refine e_next [27] (by kernel_rfl) (by kernel_rfl) ⟨⟨_, _, rfl, rfl, ?_⟩, trivial⟩
        refine s_callf [] [] [_, _, _, _] rfl rfl Tryz.call95 rfl ((c_rmet b vm vf day (found.drop (i + 1)) _ (giveC cq k 1) _ (by rw [List.length_drop]; omega) (by rw [giveC_len]; exact hR.len) (giveC_bd hc (by omega) hR.bd) _ (hB.le S101.le) (tailR_rd ht78 (hF.le S101.le)) (vec_rd (S101.at 2 rfl))).mono ?_)
        rintro _ w102 ⟨rfl, hl104⟩
        have S103 := S101.step hl104
        refine ⟨.of_le hl104, ?_⟩
        refine e_exact 28 _ (by kernel_rfl) rfl rfl (by kernel_rfl) rfl (ex_x rfl (fun w1 h1 => x_pick_t rfl rfl)) ?_
        refine e_done (by kernel_rfl) ?_
        refine l_nil ?_
        refine r_if rfl (fun hc89 => ?_) (fun hc89 => ?_)
        ·skip
         refine r_region ?_
         refine l_m rfl ?_
         refine l_a rfl ?_
         refine l_nil ?_
         refine r_inBlock ?_
         refine r_region ?_
         refine l_m rfl ?_
         refine l_x rfl (x_add rfl rfl (by omega)) ?_
         refine l_a rfl ?_
         refine l_nil ?_
         exact IHb (n + 1, some ((n : Int) + 1)) _ _ (by dsimp only; omega) ⟨rfl, rfl, rfl, rfl, rfl, rfl, rfl, rfl, rfl, trivial⟩ ⟨by omega, (fun h => by cases h), (fun z hz => by cases hz; exact find_owners (by omega) (hno rfl) (by rw [may_at hR.ap hk hc]; simp_all <;> omega)), (S103.take 2)⟩
        refine r_skip ?_
        refine r_inBlock ?_
        refine r_region ?_
        refine l_m rfl ?_
        refine l_x rfl (x_add rfl rfl (by omega)) ?_
        refine l_a rfl ?_
        refine l_nil ?_
        exact IHb (n + 1, none) _ _ (by dsimp only; omega) ⟨rfl, rfl, rfl, rfl, rfl, rfl, rfl, rfl, rfl, trivial⟩ ⟨by omega, (fun _ => no_step9 (P := fun q : Nat => mayGive (fitsO b day t) (fs b day (found.drop (i + 1))) cq ((q : Int) + 1)) (hno rfl) ((by rw [may_at hR.ap hk hc]; simp_all <;> omega))), (fun z hz => by cases hz), (S103.take 2)⟩
       refine e_exact 21 _ (by kernel_rfl) rfl rfl (by kernel_rfl) rfl (ex_pass rfl) ?_
       refine e_exact 22 _ (by kernel_rfl) rfl rfl (by kernel_rfl) rfl (ex_pass rfl) ?_
       refine e_exact 23 _ (by kernel_rfl) rfl rfl (by kernel_rfl) rfl (ex_pass rfl) ?_
       refine e_exact 24 _ (by kernel_rfl) rfl rfl (by kernel_rfl) rfl (ex_pass rfl) ?_
       refine e_exact 25 _ (by kernel_rfl) rfl rfl (by kernel_rfl) rfl (ex_pass rfl) ?_
       refine e_exact 26 _ (by kernel_rfl) rfl rfl (by kernel_rfl) rfl (ex_pass rfl) ?_
       refine e_exact 27 _ (by kernel_rfl) rfl rfl (by kernel_rfl) rfl (ex_pass rfl) ?_
       refine e_exact 28 _ (by kernel_rfl) rfl rfl (by kernel_rfl) rfl (ex_x rfl (fun w1 h1 => x_pick_f rfl rfl)) ?_
       refine e_done (by kernel_rfl) ?_
       refine l_nil ?_
       refine r_false rfl ?_
       refine r_skip ?_
       refine r_inBlock ?_
       refine r_region ?_
       refine l_m rfl ?_
       refine l_x rfl (x_add rfl rfl (by omega)) ?_
       refine l_a rfl ?_
       refine l_nil ?_
       exact IHb (n + 1, none) _ _ (by dsimp only; omega) ⟨rfl, rfl, rfl, rfl, rfl, rfl, rfl, rfl, rfl, trivial⟩ ⟨by omega, (fun _ => no_step9 (P := fun q : Nat => mayGive (fitsO b day t) (fs b day (found.drop (i + 1))) cq ((q : Int) + 1)) (hno rfl) ((by rw [may_at hR.ap hk hc]; simp_all <;> omega))), (fun z hz => by cases hz), (S98.take 2)⟩
      refine e_exact 11 _ (by kernel_rfl) rfl rfl (by kernel_rfl) rfl (ex_pass rfl) ?_
      refine e_exact 12 _ (by kernel_rfl) rfl rfl (by kernel_rfl) rfl (ex_pass rfl) ?_
      refine e_exact 13 _ (by kernel_rfl) rfl rfl (by kernel_rfl) rfl (ex_pass rfl) ?_
      refine e_exact 14 _ (by kernel_rfl) rfl rfl (by kernel_rfl) rfl (ex_pass rfl) ?_
      refine e_exact 15 _ (by kernel_rfl) rfl rfl (by kernel_rfl) rfl (ex_pass rfl) ?_
      refine e_exact 16 _ (by kernel_rfl) rfl rfl (by kernel_rfl) rfl (ex_pass rfl) ?_
      refine e_exact 17 _ (by kernel_rfl) rfl rfl (by kernel_rfl) rfl (ex_pass rfl) ?_
      refine e_exact 18 _ (by kernel_rfl) rfl rfl (by kernel_rfl) rfl (ex_pass rfl) ?_
      refine e_exact 19 _ (by kernel_rfl) rfl rfl (by kernel_rfl) rfl (ex_x rfl (fun w1 h1 => x_pick_f rfl rfl)) ?_
      refine e_exact 20 _ (by kernel_rfl) rfl rfl (by kernel_rfl) rfl (ex_x rfl (fun w1 h1 => x_mv rfl)) ?_
      refine e_exact 21 _ (by kernel_rfl) rfl rfl (by kernel_rfl) rfl (ex_pass rfl) ?_
      refine e_exact 22 _ (by kernel_rfl) rfl rfl (by kernel_rfl) rfl (ex_pass rfl) ?_
      refine e_exact 23 _ (by kernel_rfl) rfl rfl (by kernel_rfl) rfl (ex_pass rfl) ?_
      refine e_exact 24 _ (by kernel_rfl) rfl rfl (by kernel_rfl) rfl (ex_pass rfl) ?_
      refine e_exact 25 _ (by kernel_rfl) rfl rfl (by kernel_rfl) rfl (ex_pass rfl) ?_
      refine e_exact 26 _ (by kernel_rfl) rfl rfl (by kernel_rfl) rfl (ex_pass rfl) ?_
      refine e_exact 27 _ (by kernel_rfl) rfl rfl (by kernel_rfl) rfl (ex_pass rfl) ?_
      refine e_exact 28 _ (by kernel_rfl) rfl rfl (by kernel_rfl) rfl (ex_x rfl (fun w1 h1 => x_pick_f rfl rfl)) ?_
      refine e_done (by kernel_rfl) ?_
      refine l_nil ?_
      refine r_false rfl ?_
      refine r_skip ?_
      refine r_inBlock ?_
      refine r_region ?_
      refine l_m rfl ?_
      refine l_x rfl (x_add rfl rfl (by omega)) ?_
      refine l_a rfl ?_
      refine l_nil ?_
      exact IHb (n + 1, none) _ _ (by dsimp only; omega) ⟨rfl, rfl, rfl, rfl, rfl, rfl, rfl, rfl, rfl, trivial⟩ ⟨by omega, (fun _ => no_step9 (P := fun q : Nat => mayGive (fitsO b day t) (fs b day (found.drop (i + 1))) cq ((q : Int) + 1)) (hno rfl) ((by rw [may_at hR.ap hk hc]; simp_all <;> omega))), (fun z hz => by cases hz), (S90.take 2)⟩
     omega
    obtain ⟨z, rfl⟩ : ∃ z, fo = some z := by
     cases fo with
     | none => first | exact absurd rfl hc55 | exact (hR.pick ha hm9 (fun q hq => hno rfl q (by omega))).elim
     | some z => exact ⟨z, rfl⟩
    refine r_exit rfl ?_
    obtain ⟨k, c, hk, hc, hn0, hm2, hle⟩ := find_may hR.ap (hso z rfl)
    refine r_region ?_
    refine l_m rfl ?_
    refine l_m rfl ?_
    refine l_m rfl ?_
    refine l_call [] [] [_, _] rfl rfl Tryz.call96 rfl ((c_rclaimed cq _ z (by have := hR.len; omega) _ (hC.le S1b.le)).mono (fun v w' h => (⟨h.1.trans (congrArg (Value.int .i64) hk), h.2⟩ : v = .int .i64 (k : Int) ∧ Le _ w'))) ?_
    rintro _ w105 ⟨rfl, hl107⟩
    have S106 := S1b.step hl107
    refine l_call [] [] [_, _] rfl rfl Tryz.call98 rfl (c_rless cq _ hR.len k c hc (by have := hR.bd c (List.mem_of_getElem? hc); omega) _ (hC.le S106.le)) ?_
    rintro v95108 w108 ⟨hN95108, hl95108⟩
    have S109 := S106.add hl95108 hN95108
    refine l_a rfl ?_
    refine l_nil ?_
    refine r_region ?_
    refine l_m rfl ?_
    refine l_m rfl ?_
    refine l_buildSlice EI [z] S109 rfl Tryz.runUnderlying52 Tryz.sizeOf3 Tryz.zeroValue3 rfl ⟨rfl, rfl, trivial⟩ (Nat.le_of_ble_eq_true rfl) ?_
    intro v113 w110 S111 hl112
    refine l_append EI S111 1 rfl rfl rfl rfl (vec_rd (S111.at 3 rfl)) Tryz.underlying52 info3 rfl rfl rfl (by have := hR.ol; unfold maxLen; rw [List.length_singleton]; omega) (by have := hR.ol; rw [List.length_singleton]; show _ * 8 ≤ _; omega) ?_
    intro v117 w114 S115 hk116 hv118
    refine l_a rfl ?_
    refine l_nil ?_
    refine r_inBlock ?_
    refine r_region ?_
    refine l_m rfl ?_
    refine l_x rfl (x_add rfl rfl (by omega)) ?_
    refine l_a rfl ?_
    refine l_nil ?_
    exact IH (i + 1, v117, ol ++ [z], v95108, lessC cq z, false) _ _ (by dsimp only; omega) ⟨rfl, rfl, rfl, rfl, rfl, rfl, trivial⟩ ⟨by omega, hR.give9 ha hm9 (hso z rfl), (fun h => by cases h), (by have h := S115.pick (L' := [_, _, _]) [0, 1, 2] (by decide) rfl; rw [hle] at h; exact h)⟩
   obtain ⟨z, rfl⟩ : ∃ z, fo = some z := by
    cases fo with
    | none => exact (hR.pick ha hm9 (fun q hq => hno rfl q (by omega))).elim
    | some z => exact ⟨z, rfl⟩
   refine l_pass rfl ?_
   refine l_pass rfl ?_
   refine l_x rfl (x_pick_f rfl rfl) ?_
   refine l_nil ?_
   refine r_false rfl ?_
   refine r_exit rfl ?_
   obtain ⟨k, c, hk, hc, hn0, hm2, hle⟩ := find_may hR.ap (hso z rfl)
   refine r_region ?_
   refine l_m rfl ?_
   refine l_m rfl ?_
   refine l_m rfl ?_
   refine l_call [] [] [_, _] rfl rfl Tryz.call96 rfl ((c_rclaimed cq _ z (by have := hR.len; omega) _ (hC.le S1b.le)).mono (fun v w' h => (⟨h.1.trans (congrArg (Value.int .i64) hk), h.2⟩ : v = .int .i64 (k : Int) ∧ Le _ w'))) ?_
   rintro _ w119 ⟨rfl, hl121⟩
   have S120 := S1b.step hl121
   refine l_call [] [] [_, _] rfl rfl Tryz.call98 rfl (c_rless cq _ hR.len k c hc (by have := hR.bd c (List.mem_of_getElem? hc); omega) _ (hC.le S120.le)) ?_
   rintro v95122 w122 ⟨hN95122, hl95122⟩
   have S123 := S120.add hl95122 hN95122
   refine l_a rfl ?_
   refine l_nil ?_
   refine r_region ?_
   refine l_m rfl ?_
   refine l_m rfl ?_
   refine l_buildSlice EI [z] S123 rfl Tryz.runUnderlying52 Tryz.sizeOf3 Tryz.zeroValue3 rfl ⟨rfl, rfl, trivial⟩ (Nat.le_of_ble_eq_true rfl) ?_
   intro v127 w124 S125 hl126
   refine l_append EI S125 1 rfl rfl rfl rfl (vec_rd (S125.at 3 rfl)) Tryz.underlying52 info3 rfl rfl rfl (by have := hR.ol; unfold maxLen; rw [List.length_singleton]; omega) (by have := hR.ol; rw [List.length_singleton]; show _ * 8 ≤ _; omega) ?_
   intro v131 w128 S129 hk130 hv132
   refine l_a rfl ?_
   refine l_nil ?_
   refine r_inBlock ?_
   refine r_region ?_
   refine l_m rfl ?_
   refine l_x rfl (x_add rfl rfl (by omega)) ?_
   refine l_a rfl ?_
   refine l_nil ?_
   exact IH (i + 1, v131, ol ++ [z], v95122, lessC cq z, false) _ _ (by dsimp only; omega) ⟨rfl, rfl, rfl, rfl, rfl, rfl, trivial⟩ ⟨by omega, hR.give9 ha hm9 (hso z rfl), (fun h => by cases h), (by have h := S129.pick (L' := [_, _, _]) [0, 1, 2] (by decide) rfl; rw [hle] at h; exact h)⟩
  have hm9 : metB (fs b day (found.drop (i + 1))) cq = true := by simpa using hc49
  refine r_skip ?_
  refine r_region ?_
  refine l_m rfl ?_
  refine l_m rfl ?_
  refine l_buildSlice EI [0] S80 rfl Tryz.runUnderlying52 Tryz.sizeOf3 Tryz.zeroValue3 rfl ⟨rfl, rfl, trivial⟩ (Nat.le_of_ble_eq_true rfl) ?_
  intro v136 w133 S134 hl135
  refine l_append EI S134 1 rfl rfl rfl rfl (vec_rd (S134.at 3 rfl)) Tryz.underlying52 info3 rfl rfl rfl (by have := hR.ol; unfold maxLen; rw [List.length_singleton]; omega) (by have := hR.ol; rw [List.length_singleton]; show _ * 8 ≤ _; omega) ?_
  intro v140 w137 S138 hk139 hv141
  refine l_a rfl ?_
  refine l_nil ?_
  refine r_inBlock ?_
  refine r_region ?_
  refine l_m rfl ?_
  refine l_x rfl (x_add rfl rfl (by omega)) ?_
  refine l_a rfl ?_
  refine l_nil ?_
  exact IH (i + 1, v140, ol ++ [0], vq, cq, true) _ _ (by dsimp only; omega) ⟨rfl, rfl, rfl, rfl, rfl, rfl, trivial⟩ ⟨by omega, hR.stay ha hm9, (fun _ => ⟨rfl, rfl⟩), (S138.take 3)⟩
 obtain rfl : i = found.length := by omega
 refine r_exit rfl ?_
 refine r_seq ?_
 refine r_region ?_
 refine l_m rfl ?_
 refine l_a rfl ?_
 refine l_a rfl ?_
 refine l_a rfl ?_
 refine l_nil ?_
 refine r_ret (rs := [.tmp 8, .tmp 9, .tmp 10]) [_, _, _] Tryz.func28 rfl ⟨rfl, rfl, rfl, trivial⟩ ?_
 exact .inr (.inr ⟨hb, hm0, _, rfl, by have h := S1.new 1 rfl; rw [hR.done] at h; exact h, S1.le⟩)

end Go.Proofs

namespace Go.Proofs
open Go Go.Vk Go.Vk.Flow

open Go.Vk.Mark
open Go.Vk.Deed (i64 rng rng_iff owners sumI sumI_cons sumI_snoc)

set_option maxHeartbeats 4000000 in
theorem c_rMeets (b : Sm) (vm vf : Value) (day : Int) (found : List Sg) (vs : Value) (cq : List Clm) (vq : Value) (hm : found.length ≤ 9223372036854775807) (hmc : cq.length ≤ 9223372036854775807) (os : List Int) (vo : Value) (hmo : os.length ≤ 100000) (w : World) (hB : SmR 39 41 w vm vf b) (hF : Rd ESG w vs found) (hC : Rd ECL w vq cq) (hO : Rd EI w vo os) :
  Cl Tryz.prog 30 #[.agg #[vm, vf], Value.int .i64 day, vs, vq, vo] w fun v w' => (∃ e, e ≠ 0 ∧ v = .tuple #[.bool false, .int .i64 e] ∧ e = beginE b day true found cq ∧ Le w w') ∨ (beginE b day true found cq = 0 ∧ v = .tuple #[.bool (rmB b day found cq os), .int .i64 0] ∧ Le w w') := by
 refine fn_of_run (args := [_, _, _, _, _]) 95 Tryz.func30 rfl rfl rfl fun cs => ?_
 have S := Own.start (X := nob) w
 refine r_seq ?_
 refine r_region ?_
 refine l_box S rfl rfl ?_
 intro b4 w1 S2 hl3
 refine l_a rfl ?_
 refine l_a rfl ?_
 refine l_nil ?_
 refine r_seq ?_
 refine r_region ?_
 refine l_x rfl (x_load rfl (ld_blks (S2.blk 0 rfl) Tryz.isAgg25 Tryz.sizeOf25 rfl rfl)) ?_
 refine l_m rfl ?_
 refine l_m rfl ?_
 refine l_m rfl ?_
 refine l_call [] [] [_, _, _, _, _] rfl rfl Tryz.call94 rfl (c_rbegin b vm vf day [] _ (by decide) found vs hm cq vq hmc _ (hB.le S2.le) rd_nil (hF.le S2.le) (hC.le S2.le)) ?_
 rintro _ w5 ⟨rfl, hl7⟩
 have S6 := S2.step hl7
 refine l_a rfl ?_
 refine l_nil ?_
 refine r_seq ?_
 refine r_seq ?_
 refine r_region ?_
 refine l_m rfl ?_
 refine l_x rfl (x_neq rfl rfl) ?_
 refine l_nil ?_
 refine r_ifd rfl (fun hc23 => ?_) (fun hc23 => ?_)
 ·skip
  refine r_seq ?_
  refine r_region ?_
  refine l_m rfl ?_
  refine l_a rfl ?_
  refine l_a rfl ?_
  refine l_nil ?_
  refine r_ret (rs := [.tmp 10, .tmp 11]) [_, _] Tryz.func30 rfl ⟨rfl, rfl, trivial⟩ ?_
  exact .inl ⟨_, hc23, rfl, rfl, S6.le⟩
 have hb : beginE b day true found cq = 0 := Decidable.not_not.1 hc23
 have hf60 := bench_len hb
 have hcl := (claim_ok (begin_parts hb).2.2).1
 refine r_skip ?_
 refine r_seq ?_
 refine r_seq ?_
 refine r_region ?_
 refine l_m rfl ?_
 refine l_x rfl (x_len (hO.le S6.le) rfl Tryz.runUnderlying52) ?_
 refine l_m rfl ?_
 refine l_x rfl (x_len (hF.le S6.le) rfl Tryz.runUnderlying50) ?_
 refine l_x rfl (x_neq rfl rfl) ?_
 refine l_nil ?_
 refine r_ifd rfl (fun hc29 => ?_) (fun hc29 => ?_)
 ·skip
  refine r_seq ?_
  refine r_region ?_
  refine l_a rfl ?_
  refine l_a rfl ?_
  refine l_nil ?_
  refine r_ret (rs := [.tmp 10, .tmp 11]) [_, _] Tryz.func30 rfl ⟨rfl, rfl, trivial⟩ ?_
  exact .inr ⟨hb, congrArg (fun q => Value.tuple #[.bool q, .int .i64 0]) (rm_len (by omega)), S6.le⟩
 have hlen : os.length = found.length := by omega
 refine r_skip ?_
 refine r_seq ?_
 refine r_seq ?_
 refine r_region ?_
 refine l_a rfl ?_
 refine l_nil ?_
 refine r_block ?_
 refine r_loop (G := Nat) (fun i => os.length - i) (fun i => [(1, Value.int .i64 day), (2, vs), (3, vq), (4, vo), (5, .pointer (some ⟨b4, 0, none⟩)), (13, Value.int .i64 i)]) (fun i w' => (i ≤ os.length) ∧ (∀ q, q < i → okAt b day found cq os q = true) ∧ Own nob w w' [blk b4 [vm, vf] 25]) 0 ⟨rfl, rfl, rfl, rfl, rfl, rfl, trivial⟩ ⟨Nat.zero_le _, fun q h => absurd h (Nat.not_lt_zero q), (S6.take 1)⟩ ?_
 rintro i ρ w1 ⟨hi, hq, S1⟩ IH
 refine r_seq ?_
 refine r_seq ?_
 refine r_region ?_
 refine l_m rfl ?_
 refine l_m rfl ?_
 refine l_x rfl (x_len (hO.le S1.le) rfl Tryz.runUnderlying52) ?_
 refine l_x rfl (x_lss rfl rfl) ?_
 refine l_nil ?_
 refine r_ifd rfl (fun hc33 => ?_) (fun hc33 => ?_)
 ·skip
  obtain ⟨o, ho⟩ : ∃ o, os[i]? = some o := ⟨_, List.getElem?_eq_getElem (by omega)⟩
  obtain ⟨t, ht⟩ : ∃ t, found[i]? = some t := ⟨_, List.getElem?_eq_getElem (by omega)⟩
  refine r_skip ?_
  refine r_seq ?_
  refine r_block ?_
  refine r_seq ?_
  refine r_drawR 28 Tryz.mixed (by kernel_rfl) ?_
  refine w_x rfl (fun w1 h1 => x_mv rfl) ?_
  refine w_x rfl (fun w1 h1 => x_mv rfl) ?_
  refine w_index EI rfl (hO.le S1.le) rfl rfl Tryz.runUnderlying52 Tryz.sizeOf3 (by omega) ho ?_
  intro b8 o9 hat10 row11
  refine w_x rfl (fun w1 h1 => x_load rfl (ld_cell Tryz.isAgg3 ((row11.le h1) 0 _ rfl))) ?_
  refine w_x rfl (fun w1 h1 => x_neq rfl rfl) ?_
  refine w_x rfl (fun w1 h1 => x_mv rfl) ?_
  refine w_splitd (d := 41) rfl (fun hg41 => ?_) (fun hg41 => ?_)
  ·skip
   refine w_x rfl (fun w1 h1 => x_mv rfl) ?_
   refine w_x rfl (fun w1 h1 => x_mv rfl) ?_
   refine w_x rfl (fun w1 h1 => x_mv rfl) ?_
   refine w_index EI rfl (hO.le S1.le) rfl rfl Tryz.runUnderlying52 Tryz.sizeOf3 (by omega) ho ?_
   intro b12 o13 hat14 row15
   refine w_x rfl (fun w1 h1 => x_load rfl (ld_cell Tryz.isAgg3 ((row15.le h1) 0 _ rfl))) ?_
   refine wd_call [] [] [_, _] rfl rfl Tryz.call96 rfl (fun w1 h1 => c_rclaimed cq vq o (by omega) _ (hC.le (S1.step h1).le)) ?_
   refine w_x rfl (fun w1 h1 => x_lss rfl rfl) ?_
   refine w_x rfl (fun w1 h1 => x_mv rfl) ?_
   refine w_splitd (d := 49) rfl (fun hg49 => ?_) (fun hg49 => ?_)
   ·skip
    refine w_pass rfl ?_
    refine w_pass rfl ?_
    refine w_pass rfl ?_
    refine w_pass rfl ?_
    refine w_pass rfl ?_
    refine w_pass rfl ?_
    refine w_pass rfl ?_
    refine w_pass rfl ?_
    refine w_pass rfl ?_
    refine w_pass rfl ?_
    refine w_pass rfl ?_
    refine w_pass rfl ?_
    refine w_x rfl (fun w1 h1 => x_pick_t rfl rfl) ?_
    refine w_x rfl (fun w1 h1 => x_pick_t rfl rfl) ?_
    refine w_nil ?_
    intro w16 hl17
    have S18 := S1.step hl17
    refine l_nil ?_
    refine r_true rfl ?_
    refine r_seq ?_
    refine r_region ?_
    refine l_a rfl ?_
    refine l_a rfl ?_
    refine l_nil ?_
    refine r_ret (rs := [.tmp 10, .tmp 11]) [_, _] Tryz.func30 rfl ⟨rfl, rfl, trivial⟩ ?_
    exact .inr ⟨hb, congrArg (fun q => Value.tuple #[.bool q, .int .i64 0]) (rm_ok (i := i) (by omega) (by rw [ok_at ho ht]; simp_all <;> (intro h9; omega))), S18.le⟩
   refine w_x rfl (fun w1 h1 => x_load rfl (ld_blks ((S1.step h1).blk 0 rfl) Tryz.isAgg25 Tryz.sizeOf25 rfl rfl)) ?_
   refine w_x rfl (fun w1 h1 => x_mv rfl) ?_
   refine w_x rfl (fun w1 h1 => x_mv rfl) ?_
   refine w_x rfl (fun w1 h1 => x_mv rfl) ?_
   refine w_index ESG rfl (hF.le S1.le) rfl rfl Tryz.runUnderlying50 Tryz.sizeOf30 (by omega) ht ?_
   intro b19 o20 hat21 row22
   refine w_x rfl (fun w1 h1 => x_load rfl (ld_row Tryz.isAgg30 Tryz.sizeOf30 rfl (row22.le h1))) ?_
   refine w_x rfl (fun w1 h1 => x_mv rfl) ?_
   refine w_x rfl (fun w1 h1 => x_mv rfl) ?_
   refine w_index EI rfl (hO.le S1.le) rfl rfl Tryz.runUnderlying52 Tryz.sizeOf3 (by omega) ho ?_
   intro b23 o24 hat25 row26
   refine w_x rfl (fun w1 h1 => x_load rfl (ld_cell Tryz.isAgg3 ((row26.le h1) 0 _ rfl))) ?_
   refine wd_call [] [] [_, _, _, _] rfl rfl Tryz.call97 rfl (fun w1 h1 => c_rfits b vm vf day o t _ (hB.le (S1.step h1).le)) ?_
   refine w_x rfl (fun w1 h1 => x_not rfl) ?_
   refine w_x rfl (fun w1 h1 => x_pick_f rfl rfl) ?_
   refine w_x rfl (fun w1 h1 => x_pick_t rfl rfl) ?_
   refine w_nil ?_
   intro w27 hl28
   have S29 := S1.step hl28
   refine l_nil ?_
   refine r_if rfl (fun hc63 => ?_) (fun hc63 => ?_)
   ·skip
    refine r_seq ?_
    refine r_region ?_
    refine l_a rfl ?_
    refine l_a rfl ?_
    refine l_nil ?_
    refine r_ret (rs := [.tmp 10, .tmp 11]) [_, _] Tryz.func30 rfl ⟨rfl, rfl, trivial⟩ ?_
    exact .inr ⟨hb, congrArg (fun q => Value.tuple #[.bool q, .int .i64 0]) (rm_ok (i := i) (by omega) (by rw [ok_at ho ht]; simp_all <;> (intro h9; omega))), S29.le⟩
   refine r_skip ?_
   refine r_inBlock ?_
   refine r_region ?_
   refine l_m rfl ?_
   refine l_x rfl (x_add rfl rfl (by omega)) ?_
   refine l_a rfl ?_
   refine l_nil ?_
   exact IH (i + 1) _ _ (by omega) ⟨rfl, rfl, rfl, rfl, rfl, rfl, trivial⟩ ⟨by omega, ok_step9 (P := okAt b day found cq os) hq (by rw [ok_at ho ht]; simp_all <;> omega), (S29.take 1)⟩
  refine w_pass rfl ?_
  refine w_pass rfl ?_
  refine w_pass rfl ?_
  refine w_pass rfl ?_
  refine w_pass rfl ?_
  refine w_pass rfl ?_
  refine w_pass rfl ?_
  refine w_pass rfl ?_
  refine w_pass rfl ?_
  refine w_pass rfl ?_
  refine w_pass rfl ?_
  refine w_pass rfl ?_
  refine w_pass rfl ?_
  refine w_pass rfl ?_
  refine w_pass rfl ?_
  refine w_pass rfl ?_
  refine w_pass rfl ?_
  refine w_pass rfl ?_
  refine w_pass rfl ?_
  refine w_pass rfl ?_
  refine w_pass rfl ?_
  refine w_x rfl (fun w1 h1 => x_pick_f rfl rfl) ?_
  refine w_nil ?_
  intro w30 hl31
  have S32 := S1.step hl31
  refine l_nil ?_
  refine r_false rfl ?_
  refine r_skip ?_
  refine r_inBlock ?_
  refine r_region ?_
  refine l_m rfl ?_
  refine l_x rfl (x_add rfl rfl (by omega)) ?_
  refine l_a rfl ?_
  refine l_nil ?_
  exact IH (i + 1) _ _ (by omega) ⟨rfl, rfl, rfl, rfl, rfl, rfl, trivial⟩ ⟨by omega, ok_step9 (P := okAt b day found cq os) hq (by rw [ok_at ho ht]; simp_all <;> omega), (S32.take 1)⟩
 obtain rfl : i = os.length := by omega
 refine r_exit rfl ?_
 refine r_seq ?_
 refine r_seq ?_
 refine r_region ?_
 refine l_a rfl ?_
 refine l_nil ?_
 refine r_block ?_
 refine r_loop (G := Nat) (fun k => cq.length - k) (fun k => [(3, vq), (4, vo), (14, Value.int .i64 k)]) (fun k w' => (k ≤ cq.length) ∧ (∀ q c, q < k → cq[q]? = some c → (cntO os c.owner : Int) = c.number) ∧ Own nob w w' [blk b4 [vm, vf] 25]) 0 ⟨rfl, rfl, rfl, trivial⟩ ⟨Nat.zero_le _, fun q c h => absurd h (Nat.not_lt_zero q), (S1.take 1)⟩ ?_
 rintro k ρ w1b ⟨hk, hcn, S1b⟩ IHb
 refine r_seq ?_
 refine r_seq ?_
 refine r_region ?_
 refine l_m rfl ?_
 refine l_m rfl ?_
 refine l_x rfl (x_len (hC.le S1b.le) rfl Tryz.runUnderlying51) ?_
 refine l_x rfl (x_lss rfl rfl) ?_
 refine l_nil ?_
 refine r_ifd rfl (fun hc67 => ?_) (fun hc67 => ?_)
 ·skip
  obtain ⟨c, hc⟩ : ∃ c, cq[k]? = some c := ⟨_, List.getElem?_eq_getElem (by omega)⟩
  refine r_skip ?_
  refine r_seq ?_
  refine r_block ?_
  refine r_seq ?_
  refine r_region ?_
  refine l_a rfl ?_
  refine l_nil ?_
  refine r_seq ?_
  refine r_seq ?_
  refine r_region ?_
  refine l_a rfl ?_
  refine l_nil ?_
  refine r_block ?_
  refine r_loop (G := Nat) (fun j => os.length - j) (fun j => [(3, vq), (4, vo), (14, Value.int .i64 k), (15, Value.int .i64 (cntO (os.take j) c.owner : Int)), (16, Value.int .i64 j)]) (fun j w' => (j ≤ os.length) ∧ Own nob w w' [blk b4 [vm, vf] 25]) 0 ⟨rfl, rfl, rfl, rfl, rfl, trivial⟩ ⟨Nat.zero_le _, (S1b.take 1)⟩ ?_
  rintro j ρ w1c ⟨hj, S1c⟩ IHc
  refine r_seq ?_
  refine r_seq ?_
  refine r_region ?_
  refine l_m rfl ?_
  refine l_m rfl ?_
  refine l_x rfl (x_len (hO.le S1c.le) rfl Tryz.runUnderlying52) ?_
  refine l_x rfl (x_lss rfl rfl) ?_
  refine l_nil ?_
  refine r_ifd rfl (fun hc73 => ?_) (fun hc73 => ?_)
  ·skip
   obtain ⟨x, hx⟩ : ∃ x, os[j]? = some x := ⟨_, List.getElem?_eq_getElem (by omega)⟩
   have hct := cnt_len9 (os := os) (o := c.owner) (i := j)
   refine r_skip ?_
   refine r_seq ?_
   refine r_block ?_
   refine r_seq ?_
   refine r_drawR 10 Tryz.mixed (by kernel_rfl) ?_
   refine w_x rfl (fun w1 h1 => x_mv rfl) ?_
   refine w_x rfl (fun w1 h1 => x_mv rfl) ?_
   refine w_index EI rfl (hO.le S1c.le) rfl rfl Tryz.runUnderlying52 Tryz.sizeOf3 (by omega) hx ?_
   intro b33 o34 hat35 row36
   refine w_x rfl (fun w1 h1 => x_load rfl (ld_cell Tryz.isAgg3 ((row36.le h1) 0 _ rfl))) ?_
   refine w_x rfl (fun w1 h1 => x_mv rfl) ?_
   refine w_x rfl (fun w1 h1 => x_mv rfl) ?_
   refine w_index ECL rfl (hC.le S1c.le) rfl rfl Tryz.runUnderlying51 Tryz.sizeOf83 (by omega) hc ?_
   intro b37 o38 hat39 row40
   refine w_x rfl (fun w1 h1 => x_fieldAddr rfl Tryz.runUnderlying83 rfl Tryz.sizeOf3 (by decide)) ?_
   refine w_x rfl (fun w1 h1 => x_load rfl (ld_cell Tryz.isAgg3 ((row40.le h1) 0 _ rfl))) ?_
   refine w_x rfl (fun w1 h1 => x_eql rfl rfl) ?_
   refine w_nil ?_
   intro w41 hl42
   have S43 := S1c.step hl42
   refine l_nil ?_
   refine r_ifd rfl (fun hc85 => ?_) (fun hc85 => ?_)
   ·skip
    refine r_region ?_
    refine l_m rfl ?_
    refine l_x rfl (x_add rfl rfl (by omega)) ?_
    refine l_a rfl ?_
    refine l_nil ?_
    refine r_inBlock ?_
    refine r_region ?_
    refine l_m rfl ?_
    refine l_x rfl (x_add rfl rfl (by omega)) ?_
    refine l_a rfl ?_
    refine l_nil ?_
    exact IHc (j + 1) _ _ (by omega) ⟨rfl, rfl, rfl, (congrArg (Value.int .i64) (by rw [cnt_step (o := c.owner) (by rw [hx, hc85])]; rfl)), rfl, trivial⟩ ⟨by omega, (S43.take 1)⟩
   refine r_skip ?_
   refine r_inBlock ?_
   refine r_region ?_
   refine l_m rfl ?_
   refine l_x rfl (x_add rfl rfl (by omega)) ?_
   refine l_a rfl ?_
   refine l_nil ?_
   exact IHc (j + 1) _ _ (by omega) ⟨rfl, rfl, rfl, (congrArg (Value.int .i64) (by rw [cnt_stay hx hc85])), rfl, trivial⟩ ⟨by omega, (S43.take 1)⟩
  obtain rfl : j = os.length := by omega
  refine r_exit rfl ?_
  refine r_seq ?_
  refine r_region ?_
  refine l_m rfl ?_
  refine l_m rfl ?_
  refine l_m rfl ?_
  refine l_index ECL rfl (hC.le S1c.le) rfl rfl Tryz.runUnderlying51 Tryz.sizeOf83 (by omega) hc ?_
  intro b44 o45 hat46 row47
  refine l_x rfl (x_fieldAddr rfl Tryz.runUnderlying83 rfl Tryz.sizeOf3 (by decide)) ?_
  refine l_x rfl (x_load rfl (ld_cell Tryz.isAgg3 (row47 1 _ rfl))) ?_
  refine l_x rfl (x_neq rfl rfl) ?_
  refine l_nil ?_
  refine r_ifd rfl (fun hc94 => ?_) (fun hc94 => ?_)
  ·skip
   refine r_seq ?_
   refine r_region ?_
   refine l_a rfl ?_
   refine l_a rfl ?_
   refine l_nil ?_
   refine r_ret (rs := [.tmp 10, .tmp 11]) [_, _] Tryz.func30 rfl ⟨rfl, rfl, trivial⟩ ?_
   exact .inr ⟨hb, congrArg (fun q => Value.tuple #[.bool q, .int .i64 0]) (rm_cnt hc (by rw [List.take_length] at hc94; exact hc94)), S1c.le⟩
  refine r_skip ?_
  refine r_inBlock ?_
  refine r_region ?_
  refine l_m rfl ?_
  refine l_x rfl (x_add rfl rfl (by omega)) ?_
  refine l_a rfl ?_
  refine l_nil ?_
  exact IHb (k + 1) _ _ (by omega) ⟨rfl, rfl, rfl, trivial⟩ ⟨by omega, cnt_step9 (P := fun _ c => (cntO os c.owner : Int) = c.number) hcn hc (by rw [List.take_length] at hc94; exact Decidable.not_not.1 hc94), (S1c.take 1)⟩
 obtain rfl : k = cq.length := by omega
 refine r_exit rfl ?_
 refine r_seq ?_
 refine r_region ?_
 refine l_a rfl ?_
 refine l_a rfl ?_
 refine l_nil ?_
 refine r_ret (rs := [.tmp 10, .tmp 11]) [_, _] Tryz.func30 rfl ⟨rfl, rfl, trivial⟩ ?_
 exact .inr ⟨hb, congrArg (fun q => Value.tuple #[.bool q, .int .i64 0]) (rm_yes hlen hq hcn), S1b.le⟩

end Go.Proofs

namespace Go.Proofs
open Go Go.Vk Go.Vk.Flow

open Go.Vk.Mark
open Go.Vk.Deed (i64 rng rng_iff owners sumI sumI_cons sumI_snoc)
open Go.Vk.Deed (cmpI)

def ckS (cz : List Clm) (os : List Int) (l : List Nat) : Bool := l.any fun s => decide (lsP cz s cz.length = os)
end Go.Proofs

namespace Go.Proofs
open Go Go.Vk Go.Vk.Flow

open Go.Vk.Mark
open Go.Vk.Deed (i64 rng rng_iff owners sumI sumI_cons sumI_snoc)
open Go.Vk.Deed (cmpI)

section
variable {b : Sm} {day : Int} {found : List Sg} {cs9 cz : List Clm}
end
theorem c_MeetsE (b : Sm) (vm vf : Value) (day : Int) (found : List Sg) (vs : Value) (cs9 : List Clm) (vq : Value) (hm : found.length ≤ 9223372036854775807) (hmc : cs9.length ≤ 9223372036854775807) (hsg : ∀ t ∈ found, SgOk t) (e : Int) (hn : e ≠ 0) (he : e = beginE b day true found cs9) (os : List Int) (vo : Value)  (w : World) (hB : SmR 39 41 w vm vf b) (hF : Rd ESG w vs found) (hC : Rd ECL w vq cs9) (hO : Rd EI w vo os) : Cl Tryz.prog 29 #[.agg #[vm, vf], Value.int .i64 day, vs, vq, vo] w fun v w' => v = .tuple #[.bool false, .int .i64 e] ∧ Le w w' :=
 (c_Meets b vm vf day found vs cs9 vq hm hmc hsg os vo w hB hF hC hO).mono fun v w' h => by
  rcases h with ⟨e', _, rfl, he', hl⟩ | ⟨cz, hb, _⟩
  ·rw [← he] at he'; subst he'; exact ⟨rfl, hl⟩
  exact absurd (he.trans hb) hn
theorem c_MeetsK (b : Sm) (vm vf : Value) (day : Int) (found : List Sg) (vs : Value) (cs9 : List Clm) (vq : Value) (hm : found.length ≤ 9223372036854775807) (hmc : cs9.length ≤ 9223372036854775807) (hsg : ∀ t ∈ found, SgOk t) (cz : List Clm) (hb : beginE b day true found cs9 = 0) (hp : cz.Perm cs9) (hs : SortedL (fun x y : Clm => cmpI x.owner y.owner) cz) (os : List Int) (vo : Value)  (w : World) (hB : SmR 39 41 w vm vf b) (hF : Rd ESG w vs found) (hC : Rd ECL w vq cs9) (hO : Rd EI w vo os) : Cl Tryz.prog 29 #[.agg #[vm, vf], Value.int .i64 day, vs, vq, vo] w fun v w' => v = .tuple #[.bool (meetsM os (mks b day found cz) cz), .int .i64 0] ∧ Le w w' :=
 (c_Meets b vm vf day found vs cs9 vq hm hmc hsg os vo w hB hF hC hO).mono fun v w' h => by
  rcases h with ⟨e', hn, rfl, he', hl⟩ | ⟨cz', hb', hp', hs', rfl, hl⟩
  ·exact absurd (he'.trans hb) hn
  have e := one_cz hb hp hs hp' hs'
  subst e
  exact ⟨rfl, hl⟩
end Go.Proofs

namespace Go.Proofs
open Go Go.Vk Go.Vk.Flow

open Go.Vk.Mark
open Go.Vk.Deed (i64 rng rng_iff owners sumI sumI_cons sumI_snoc)

theorem c_few (b : Sm) (vm vf : Value) (l : List Sg) (vs : Value) (c : List Clm) (vq : Value) (w : World) (hB : SmR 39 41 w vm vf b) (hF : Rd ESG w vs l) (hC : Rd ECL w vq c) :
  Cl Tryz.prog 19 #[.agg #[vm, vf], vs, vq] w fun v w' => ∃ q : Bool, v = .bool q ∧ Le w w' := by
 refine fn_of_run (args := [_, _, _]) 57 Tryz.func19 rfl rfl rfl fun cs => ?_
 have S := Own.start (X := nob) w
 refine r_seq ?_
 refine r_region ?_
 refine l_box S rfl rfl ?_
 intro b4 w1 S2 hl3
 refine l_a rfl ?_
 refine l_nil ?_
 refine r_seq ?_
 refine r_seq ?_
 refine r_region ?_
 refine l_x rfl (x_fieldAddr rfl Tryz.runUnderlying25 rfl Tryz.sizeOf22 (by decide)) ?_
 refine l_x rfl (x_load rfl (ld_blk (S2.blk 0 rfl) Tryz.isAgg22 rfl)) ?_
 refine l_x rfl (x_len (hB.m.le S2.le) rfl Tryz.runUnderlying22) ?_
 refine l_x rfl (x_gtr rfl rfl) ?_
 refine l_m rfl ?_
 refine l_splitd (d := 11) rfl (fun hg11 => ?_) (fun hg11 => ?_)
 ·skip
  refine l_x rfl (x_fieldAddr rfl Tryz.runUnderlying25 rfl Tryz.sizeOf22 (by decide)) ?_
  refine l_x rfl (x_load rfl (ld_blk (S2.blk 0 rfl) Tryz.isAgg22 rfl)) ?_
  refine l_x rfl (x_len (hB.m.le S2.le) rfl Tryz.runUnderlying22) ?_
  refine l_x rfl (x_leq rfl rfl) ?_
  refine l_x rfl (x_pick_t rfl rfl) ?_
  refine l_m rfl ?_
  refine l_splitd (d := 17) rfl (fun hg17 => ?_) (fun hg17 => ?_)
  ·skip
   refine l_pass rfl ?_
   refine l_pass rfl ?_
   refine l_pass rfl ?_
   refine l_pass rfl ?_
   refine l_x rfl (x_pick_t rfl rfl) ?_
   refine l_m rfl ?_
   refine l_pass rfl ?_
   refine l_pass rfl ?_
   refine l_pass rfl ?_
   refine l_pass rfl ?_
   refine l_x rfl (x_pick_t rfl rfl) ?_
   refine l_nil ?_
   refine r_true rfl ?_
   refine r_seq ?_
   refine r_region ?_
   refine l_a rfl ?_
   refine l_nil ?_
   refine r_ret (rs := [.tmp 6]) [_] Tryz.func19 rfl ⟨rfl, trivial⟩ ?_
   exact ⟨_, rfl, S2.le⟩
  refine l_x rfl (x_fieldAddr rfl Tryz.runUnderlying25 rfl Tryz.sizeOf22 (by decide)) ?_
  refine l_x rfl (x_load rfl (ld_blk (S2.blk 0 rfl) Tryz.isAgg22 rfl)) ?_
  refine l_x rfl (x_len (hB.m.le S2.le) rfl Tryz.runUnderlying22) ?_
  refine l_x rfl (x_gtr rfl rfl) ?_
  refine l_x rfl (x_pick_f rfl rfl) ?_
  refine l_m rfl ?_
  refine l_splitd (d := 23) rfl (fun hg23 => ?_) (fun hg23 => ?_)
  ·skip
   refine l_pass rfl ?_
   refine l_pass rfl ?_
   refine l_pass rfl ?_
   refine l_pass rfl ?_
   refine l_x rfl (x_pick_t rfl rfl) ?_
   refine l_nil ?_
   refine r_true rfl ?_
   refine r_seq ?_
   refine r_region ?_
   refine l_a rfl ?_
   refine l_nil ?_
   refine r_ret (rs := [.tmp 6]) [_] Tryz.func19 rfl ⟨rfl, trivial⟩ ?_
   exact ⟨_, rfl, S2.le⟩
  refine l_x rfl (x_fieldAddr rfl Tryz.runUnderlying25 rfl Tryz.sizeOf23 (by decide)) ?_
  refine l_x rfl (x_load rfl (ld_blk (S2.blk 0 rfl) Tryz.isAgg23 rfl)) ?_
  refine l_x rfl (x_len (hB.f.le S2.le) rfl Tryz.runUnderlying23) ?_
  refine l_x rfl (x_gtr rfl rfl) ?_
  refine l_x rfl (x_pick_f rfl rfl) ?_
  refine l_nil ?_
  refine r_ifd rfl (fun hc28 => ?_) (fun hc28 => ?_)
  ·skip
   refine r_seq ?_
   refine r_region ?_
   refine l_a rfl ?_
   refine l_nil ?_
   refine r_ret (rs := [.tmp 6]) [_] Tryz.func19 rfl ⟨rfl, trivial⟩ ?_
   exact ⟨_, rfl, S2.le⟩
  refine r_skip ?_
  refine r_seq ?_
  refine r_region ?_
  refine l_m rfl ?_
  refine l_x rfl (x_len (hF.le S2.le) rfl Tryz.runUnderlying50) ?_
  refine l_x rfl (x_leq rfl rfl) ?_
  refine l_m rfl ?_
  refine l_splitd (d := 32) rfl (fun hg32 => ?_) (fun hg32 => ?_)
  ·skip
   refine l_pass rfl ?_
   refine l_pass rfl ?_
   refine l_pass rfl ?_
   refine l_pass rfl ?_
   refine l_pass rfl ?_
   refine l_pass rfl ?_
   refine l_pass rfl ?_
   refine l_pass rfl ?_
   refine l_x rfl (x_pick_t rfl rfl) ?_
   refine l_m rfl ?_
   refine l_m rfl ?_
   refine l_x rfl (x_len (hC.le S2.le) rfl Tryz.runUnderlying51) ?_
   refine l_x rfl (x_leq rfl rfl) ?_
   refine l_m rfl ?_
   refine l_splitd (d := 46) rfl (fun hg46 => ?_) (fun hg46 => ?_)
   ·skip
    refine l_pass rfl ?_
    refine l_pass rfl ?_
    refine l_pass rfl ?_
    refine l_pass rfl ?_
    refine l_pass rfl ?_
    refine l_pass rfl ?_
    refine l_pass rfl ?_
    refine l_pass rfl ?_
    refine l_x rfl (x_pick_t rfl rfl) ?_
    refine l_x rfl (x_pick_t rfl rfl) ?_
    refine l_a rfl ?_
    refine l_nil ?_
    refine r_ret (rs := [.tmp 6]) [_] Tryz.func19 rfl ⟨rfl, trivial⟩ ?_
    exact ⟨_, rfl, S2.le⟩
   refine l_m rfl ?_
   refine l_x rfl (x_len (hC.le S2.le) rfl Tryz.runUnderlying51) ?_
   refine l_x rfl (x_gtr rfl rfl) ?_
   refine l_m rfl ?_
   refine l_splitd (d := 50) rfl (fun hg50 => ?_) (fun hg50 => ?_)
   ·skip
    refine l_m rfl ?_
    refine l_x rfl (x_len (hC.le S2.le) rfl Tryz.runUnderlying51) ?_
    refine l_x rfl (x_leq rfl rfl) ?_
    refine l_x rfl (x_pick_t rfl rfl) ?_
    refine l_x rfl (x_pick_f rfl rfl) ?_
    refine l_x rfl (x_pick_t rfl rfl) ?_
    refine l_a rfl ?_
    refine l_nil ?_
    refine r_ret (rs := [.tmp 6]) [_] Tryz.func19 rfl ⟨rfl, trivial⟩ ?_
    exact ⟨_, rfl, S2.le⟩
   refine l_pass rfl ?_
   refine l_pass rfl ?_
   refine l_pass rfl ?_
   refine l_x rfl (x_pick_f rfl rfl) ?_
   refine l_x rfl (x_pick_f rfl rfl) ?_
   refine l_x rfl (x_pick_t rfl rfl) ?_
   refine l_a rfl ?_
   refine l_nil ?_
   refine r_ret (rs := [.tmp 6]) [_] Tryz.func19 rfl ⟨rfl, trivial⟩ ?_
   exact ⟨_, rfl, S2.le⟩
  refine l_m rfl ?_
  refine l_x rfl (x_len (hF.le S2.le) rfl Tryz.runUnderlying50) ?_
  refine l_x rfl (x_gtr rfl rfl) ?_
  refine l_m rfl ?_
  refine l_splitd (d := 36) rfl (fun hg36 => ?_) (fun hg36 => ?_)
  ·skip
   refine l_m rfl ?_
   refine l_x rfl (x_len (hF.le S2.le) rfl Tryz.runUnderlying50) ?_
   refine l_x rfl (x_leq rfl rfl) ?_
   refine l_x rfl (x_pick_t rfl rfl) ?_
   refine l_x rfl (x_pick_f rfl rfl) ?_
   refine l_m rfl ?_
   refine l_splitd (d := 42) rfl (fun hg42 => ?_) (fun hg42 => ?_)
   ·skip
    refine l_m rfl ?_
    refine l_x rfl (x_len (hC.le S2.le) rfl Tryz.runUnderlying51) ?_
    refine l_x rfl (x_leq rfl rfl) ?_
    refine l_m rfl ?_
    refine l_splitd (d := 46) rfl (fun hg46 => ?_) (fun hg46 => ?_)
    ·skip
     refine l_pass rfl ?_
     refine l_pass rfl ?_
     refine l_pass rfl ?_
     refine l_pass rfl ?_
     refine l_pass rfl ?_
     refine l_pass rfl ?_
     refine l_pass rfl ?_
     refine l_pass rfl ?_
     refine l_x rfl (x_pick_t rfl rfl) ?_
     refine l_x rfl (x_pick_t rfl rfl) ?_
     refine l_a rfl ?_
     refine l_nil ?_
     refine r_ret (rs := [.tmp 6]) [_] Tryz.func19 rfl ⟨rfl, trivial⟩ ?_
     exact ⟨_, rfl, S2.le⟩
    refine l_m rfl ?_
    refine l_x rfl (x_len (hC.le S2.le) rfl Tryz.runUnderlying51) ?_
    refine l_x rfl (x_gtr rfl rfl) ?_
    refine l_m rfl ?_
    refine l_splitd (d := 50) rfl (fun hg50 => ?_) (fun hg50 => ?_)
    ·skip
     refine l_m rfl ?_
     refine l_x rfl (x_len (hC.le S2.le) rfl Tryz.runUnderlying51) ?_
     refine l_x rfl (x_leq rfl rfl) ?_
     refine l_x rfl (x_pick_t rfl rfl) ?_
     refine l_x rfl (x_pick_f rfl rfl) ?_
     refine l_x rfl (x_pick_t rfl rfl) ?_
     refine l_a rfl ?_
     refine l_nil ?_
     refine r_ret (rs := [.tmp 6]) [_] Tryz.func19 rfl ⟨rfl, trivial⟩ ?_
     exact ⟨_, rfl, S2.le⟩
    refine l_pass rfl ?_
    refine l_pass rfl ?_
    refine l_pass rfl ?_
    refine l_x rfl (x_pick_f rfl rfl) ?_
    refine l_x rfl (x_pick_f rfl rfl) ?_
    refine l_x rfl (x_pick_t rfl rfl) ?_
    refine l_a rfl ?_
    refine l_nil ?_
    refine r_ret (rs := [.tmp 6]) [_] Tryz.func19 rfl ⟨rfl, trivial⟩ ?_
    exact ⟨_, rfl, S2.le⟩
   refine l_pass rfl ?_
   refine l_pass rfl ?_
   refine l_pass rfl ?_
   refine l_pass rfl ?_
   refine l_pass rfl ?_
   refine l_pass rfl ?_
   refine l_pass rfl ?_
   refine l_pass rfl ?_
   refine l_pass rfl ?_
   refine l_pass rfl ?_
   refine l_pass rfl ?_
   refine l_pass rfl ?_
   refine l_pass rfl ?_
   refine l_x rfl (x_pick_f rfl rfl) ?_
   refine l_a rfl ?_
   refine l_nil ?_
   refine r_ret (rs := [.tmp 6]) [_] Tryz.func19 rfl ⟨rfl, trivial⟩ ?_
   exact ⟨_, rfl, S2.le⟩
  refine l_pass rfl ?_
  refine l_pass rfl ?_
  refine l_pass rfl ?_
  refine l_x rfl (x_pick_f rfl rfl) ?_
  refine l_x rfl (x_pick_f rfl rfl) ?_
  refine l_m rfl ?_
  refine l_pass rfl ?_
  refine l_pass rfl ?_
  refine l_pass rfl ?_
  refine l_pass rfl ?_
  refine l_pass rfl ?_
  refine l_pass rfl ?_
  refine l_pass rfl ?_
  refine l_pass rfl ?_
  refine l_pass rfl ?_
  refine l_pass rfl ?_
  refine l_pass rfl ?_
  refine l_pass rfl ?_
  refine l_pass rfl ?_
  refine l_x rfl (x_pick_f rfl rfl) ?_
  refine l_a rfl ?_
  refine l_nil ?_
  refine r_ret (rs := [.tmp 6]) [_] Tryz.func19 rfl ⟨rfl, trivial⟩ ?_
  exact ⟨_, rfl, S2.le⟩
 refine l_pass rfl ?_
 refine l_pass rfl ?_
 refine l_pass rfl ?_
 refine l_pass rfl ?_
 refine l_x rfl (x_pick_f rfl rfl) ?_
 refine l_m rfl ?_
 refine l_x rfl (x_fieldAddr rfl Tryz.runUnderlying25 rfl Tryz.sizeOf22 (by decide)) ?_
 refine l_x rfl (x_load rfl (ld_blk (S2.blk 0 rfl) Tryz.isAgg22 rfl)) ?_
 refine l_x rfl (x_len (hB.m.le S2.le) rfl Tryz.runUnderlying22) ?_
 refine l_x rfl (x_gtr rfl rfl) ?_
 refine l_x rfl (x_pick_f rfl rfl) ?_
 refine l_m rfl ?_
 refine l_splitd (d := 23) rfl (fun hg23 => ?_) (fun hg23 => ?_)
 ·skip
  refine l_pass rfl ?_
  refine l_pass rfl ?_
  refine l_pass rfl ?_
  refine l_pass rfl ?_
  refine l_x rfl (x_pick_t rfl rfl) ?_
  refine l_nil ?_
  refine r_true rfl ?_
  refine r_seq ?_
  refine r_region ?_
  refine l_a rfl ?_
  refine l_nil ?_
  refine r_ret (rs := [.tmp 6]) [_] Tryz.func19 rfl ⟨rfl, trivial⟩ ?_
  exact ⟨_, rfl, S2.le⟩
 refine l_x rfl (x_fieldAddr rfl Tryz.runUnderlying25 rfl Tryz.sizeOf23 (by decide)) ?_
 refine l_x rfl (x_load rfl (ld_blk (S2.blk 0 rfl) Tryz.isAgg23 rfl)) ?_
 refine l_x rfl (x_len (hB.f.le S2.le) rfl Tryz.runUnderlying23) ?_
 refine l_x rfl (x_gtr rfl rfl) ?_
 refine l_x rfl (x_pick_f rfl rfl) ?_
 refine l_nil ?_
 refine r_ifd rfl (fun hc28 => ?_) (fun hc28 => ?_)
 ·skip
  refine r_seq ?_
  refine r_region ?_
  refine l_a rfl ?_
  refine l_nil ?_
  refine r_ret (rs := [.tmp 6]) [_] Tryz.func19 rfl ⟨rfl, trivial⟩ ?_
  exact ⟨_, rfl, S2.le⟩
 refine r_skip ?_
 refine r_seq ?_
 refine r_region ?_
 refine l_m rfl ?_
 refine l_x rfl (x_len (hF.le S2.le) rfl Tryz.runUnderlying50) ?_
 refine l_x rfl (x_leq rfl rfl) ?_
 refine l_m rfl ?_
 refine l_splitd (d := 32) rfl (fun hg32 => ?_) (fun hg32 => ?_)
 ·skip
  refine l_pass rfl ?_
  refine l_pass rfl ?_
  refine l_pass rfl ?_
  refine l_pass rfl ?_
  refine l_pass rfl ?_
  refine l_pass rfl ?_
  refine l_pass rfl ?_
  refine l_pass rfl ?_
  refine l_x rfl (x_pick_t rfl rfl) ?_
  refine l_m rfl ?_
  refine l_m rfl ?_
  refine l_x rfl (x_len (hC.le S2.le) rfl Tryz.runUnderlying51) ?_
  refine l_x rfl (x_leq rfl rfl) ?_
  refine l_m rfl ?_
  refine l_splitd (d := 46) rfl (fun hg46 => ?_) (fun hg46 => ?_)
  ·skip
   refine l_pass rfl ?_
   refine l_pass rfl ?_
   refine l_pass rfl ?_
   refine l_pass rfl ?_
   refine l_pass rfl ?_
   refine l_pass rfl ?_
   refine l_pass rfl ?_
   refine l_pass rfl ?_
   refine l_x rfl (x_pick_t rfl rfl) ?_
   refine l_x rfl (x_pick_t rfl rfl) ?_
   refine l_a rfl ?_
   refine l_nil ?_
   refine r_ret (rs := [.tmp 6]) [_] Tryz.func19 rfl ⟨rfl, trivial⟩ ?_
   exact ⟨_, rfl, S2.le⟩
  refine l_m rfl ?_
  refine l_x rfl (x_len (hC.le S2.le) rfl Tryz.runUnderlying51) ?_
  refine l_x rfl (x_gtr rfl rfl) ?_
  refine l_m rfl ?_
  refine l_splitd (d := 50) rfl (fun hg50 => ?_) (fun hg50 => ?_)
  ·skip
   refine l_m rfl ?_
   refine l_x rfl (x_len (hC.le S2.le) rfl Tryz.runUnderlying51) ?_
   refine l_x rfl (x_leq rfl rfl) ?_
   refine l_x rfl (x_pick_t rfl rfl) ?_
   refine l_x rfl (x_pick_f rfl rfl) ?_
   refine l_x rfl (x_pick_t rfl rfl) ?_
   refine l_a rfl ?_
   refine l_nil ?_
   refine r_ret (rs := [.tmp 6]) [_] Tryz.func19 rfl ⟨rfl, trivial⟩ ?_
   exact ⟨_, rfl, S2.le⟩
  refine l_pass rfl ?_
  refine l_pass rfl ?_
  refine l_pass rfl ?_
  refine l_x rfl (x_pick_f rfl rfl) ?_
  refine l_x rfl (x_pick_f rfl rfl) ?_
  refine l_x rfl (x_pick_t rfl rfl) ?_
  refine l_a rfl ?_
  refine l_nil ?_
  refine r_ret (rs := [.tmp 6]) [_] Tryz.func19 rfl ⟨rfl, trivial⟩ ?_
  exact ⟨_, rfl, S2.le⟩
 refine l_m rfl ?_
 refine l_x rfl (x_len (hF.le S2.le) rfl Tryz.runUnderlying50) ?_
 refine l_x rfl (x_gtr rfl rfl) ?_
 refine l_m rfl ?_
 refine l_splitd (d := 36) rfl (fun hg36 => ?_) (fun hg36 => ?_)
 ·skip
  refine l_m rfl ?_
  refine l_x rfl (x_len (hF.le S2.le) rfl Tryz.runUnderlying50) ?_
  refine l_x rfl (x_leq rfl rfl) ?_
  refine l_x rfl (x_pick_t rfl rfl) ?_
  refine l_x rfl (x_pick_f rfl rfl) ?_
  refine l_m rfl ?_
  refine l_splitd (d := 42) rfl (fun hg42 => ?_) (fun hg42 => ?_)
  ·skip
   refine l_m rfl ?_
   refine l_x rfl (x_len (hC.le S2.le) rfl Tryz.runUnderlying51) ?_
   refine l_x rfl (x_leq rfl rfl) ?_
   refine l_m rfl ?_
   refine l_splitd (d := 46) rfl (fun hg46 => ?_) (fun hg46 => ?_)
   ·skip
    refine l_pass rfl ?_
    refine l_pass rfl ?_
    refine l_pass rfl ?_
    refine l_pass rfl ?_
    refine l_pass rfl ?_
    refine l_pass rfl ?_
    refine l_pass rfl ?_
    refine l_pass rfl ?_
    refine l_x rfl (x_pick_t rfl rfl) ?_
    refine l_x rfl (x_pick_t rfl rfl) ?_
    refine l_a rfl ?_
    refine l_nil ?_
    refine r_ret (rs := [.tmp 6]) [_] Tryz.func19 rfl ⟨rfl, trivial⟩ ?_
    exact ⟨_, rfl, S2.le⟩
   refine l_m rfl ?_
   refine l_x rfl (x_len (hC.le S2.le) rfl Tryz.runUnderlying51) ?_
   refine l_x rfl (x_gtr rfl rfl) ?_
   refine l_m rfl ?_
   refine l_splitd (d := 50) rfl (fun hg50 => ?_) (fun hg50 => ?_)
   ·skip
    refine l_m rfl ?_
    refine l_x rfl (x_len (hC.le S2.le) rfl Tryz.runUnderlying51) ?_
    refine l_x rfl (x_leq rfl rfl) ?_
    refine l_x rfl (x_pick_t rfl rfl) ?_
    refine l_x rfl (x_pick_f rfl rfl) ?_
    refine l_x rfl (x_pick_t rfl rfl) ?_
    refine l_a rfl ?_
    refine l_nil ?_
    refine r_ret (rs := [.tmp 6]) [_] Tryz.func19 rfl ⟨rfl, trivial⟩ ?_
    exact ⟨_, rfl, S2.le⟩
   refine l_pass rfl ?_
   refine l_pass rfl ?_
   refine l_pass rfl ?_
   refine l_x rfl (x_pick_f rfl rfl) ?_
   refine l_x rfl (x_pick_f rfl rfl) ?_
   refine l_x rfl (x_pick_t rfl rfl) ?_
   refine l_a rfl ?_
   refine l_nil ?_
   refine r_ret (rs := [.tmp 6]) [_] Tryz.func19 rfl ⟨rfl, trivial⟩ ?_
   exact ⟨_, rfl, S2.le⟩
  refine l_pass rfl ?_
  refine l_pass rfl ?_
  refine l_pass rfl ?_
  refine l_pass rfl ?_
  refine l_pass rfl ?_
  refine l_pass rfl ?_
  refine l_pass rfl ?_
  refine l_pass rfl ?_
  refine l_pass rfl ?_
  refine l_pass rfl ?_
  refine l_pass rfl ?_
  refine l_pass rfl ?_
  refine l_pass rfl ?_
  refine l_x rfl (x_pick_f rfl rfl) ?_
  refine l_a rfl ?_
  refine l_nil ?_
  refine r_ret (rs := [.tmp 6]) [_] Tryz.func19 rfl ⟨rfl, trivial⟩ ?_
  exact ⟨_, rfl, S2.le⟩
 refine l_pass rfl ?_
 refine l_pass rfl ?_
 refine l_pass rfl ?_
 refine l_x rfl (x_pick_f rfl rfl) ?_
 refine l_x rfl (x_pick_f rfl rfl) ?_
 refine l_m rfl ?_
 refine l_pass rfl ?_
 refine l_pass rfl ?_
 refine l_pass rfl ?_
 refine l_pass rfl ?_
 refine l_pass rfl ?_
 refine l_pass rfl ?_
 refine l_pass rfl ?_
 refine l_pass rfl ?_
 refine l_pass rfl ?_
 refine l_pass rfl ?_
 refine l_pass rfl ?_
 refine l_pass rfl ?_
 refine l_pass rfl ?_
 refine l_x rfl (x_pick_f rfl rfl) ?_
 refine l_a rfl ?_
 refine l_nil ?_
 refine r_ret (rs := [.tmp 6]) [_] Tryz.func19 rfl ⟨rfl, trivial⟩ ?_
 exact ⟨_, rfl, S2.le⟩

end Go.Proofs
