/- Texts joined for claims: G12, G13. -/
import Derived.Test.YtdikpjkdbgfoaaaGreatKd938287a1f
import Derived.Test.YtdikpjkdbgfoaaaGreatKc428f52d18
import Derived.Test.YtdikpjkdbgfoaaaGreatKb886a9a425
import Derived.Test.YtdikpjkdbgfoaaaGreatK5d858437a0
set_option linter.unusedVariables false
set_option linter.unusedSimpArgs false
set_option linter.unusedSectionVars false
/-
  Contracts of functions of the program: each by symbolic execution of its text.
-/
namespace Go.Proofs
open Go Go.Vk Go.Vk.Flow

open Go.Vk.Deed
/-- What the deeds make is in order. -/
structure PlayOk (l : List D) (day : Int) : Prop where
  i : StI (doneD l day) (l.filter fun x => decide (x.day ≤ day))
  b : StB (doneD l day)
  n : NN (doneD l day) day
theorem play_okay {l : List D} (hP : PlayL l) (hs : l.Pairwise fun a b => a.day ≤ b.day) (day : Int) : PlayOk l day := by
  have hPf : PlayL (l.filter fun x => decide (x.day ≤ day)) := hP.filter _
  have hI := play_inv _ rfl hPf
  exact ⟨hI, hI.stb hPf.e hPf.len, play_nn _ rfl hPf (hs.filter _) day fun x hx => by simpa using (List.mem_filter.1 hx).2⟩
theorem playl_nil : PlayL [] := ⟨nofun, nofun, List.nodup_nil, by simp [enters, sumI], Nat.zero_le _⟩
theorem ctg_play {l c : List D} {known : Int} (h : c = if rightD l = true then counting l known else []) : PlayL c ∧ c.Pairwise fun a b => a.day ≤ b.day := by
  subst h
  split
  · next hR => exact ⟨right_play hR, count_sorted hR⟩
  exact ⟨playl_nil, .nil⟩
theorem ctg_on {l c : List D} {known day : Int} (h : c = if rightD l = true then counting l known else []) : doneD c day = onD l known day := by
  subst h
  unfold onD
  split <;> rfl
theorem ctg_len {l : List D} {rq : List Rw} {known : Int} (h : dl rq = if rightD l = true then counting l known else []) : rq.length ≤ 400 := by
  have := (ctg_play h).1.len
  rwa [dl_len] at this
end Go.Proofs

/-
  Contracts of functions of the program: each by symbolic execution of its text.
-/
namespace Go.Proofs
open Go Go.Vk Go.Vk.Flow

open Go.Vk.Deed

set_option maxHeartbeats 4000000 in
/-- couchant/couchantref02.ascending. -/
theorem c_rasc (l : List Int) (vl : Value) (hml : l.length ≤ 1000000) (w : World) (hL : Rd EI w vl l) :
    Cl Tryz.prog 116 #[vl] w fun v w' => New w w' (vec EI v (Go.Vk.Deed.asc l)) ∧ Le w w' := by
  refine fn_of_run (args := [_]) 49 Tryz.func116 rfl rfl rfl fun cs => ?_
  have S := Own.start (X := nob) w
  refine r_seq ?_
  refine r_region ?_
  refine l_x rfl (x_as rfl) ?_
  refine l_nil ?_
  refine r_seq ?_
  refine r_region ?_
  refine l_x rfl (x_as rfl) ?_
  have S1 := S.nilvec (E := EI)
  refine l_nil ?_
  refine r_seq ?_
  refine r_seq ?_
  refine r_region ?_
  refine l_x rfl (x_as rfl) ?_
  refine l_nil ?_
  refine r_block ?_
  refine r_loop (G := Nat × List Int × Value) (fun ⟨i, out, vo⟩ => l.length - i) (fun ⟨i, out, vo⟩ => [(0, vl), (3, vo), (4, .int .i64 i)]) (fun ⟨i, out, vo⟩ w' => (i ≤ l.length) ∧ (out.Perm (l.take i)) ∧ (out.Pairwise (· ≤ ·)) ∧ Own nob w w' [vec EI vo out]) (0, [], .slice none 0 0) ⟨rfl, rfl, rfl, trivial⟩ ⟨Nat.zero_le _, .refl _, .nil, (S1.take 1)⟩ ?_
  rintro ⟨i, out, vo⟩ ρ w1 ⟨hi, hp, hs, S1⟩ IH
  refine r_seq ?_
  refine r_seq ?_
  refine r_region ?_
  refine l_x rfl (x_mv rfl) ?_
  refine l_x rfl (x_mv rfl) ?_
  refine l_x rfl (x_len (hL.le S1.le) rfl Tryz.runUnderlying24) ?_
  refine l_x rfl (x_lss rfl rfl) ?_
  refine l_nil ?_
  refine r_ifd rfl (fun hc10 => ?_) (fun hc10 => ?_)
  · skip
    obtain ⟨a, ha⟩ : ∃ a, l[i]? = some a := ⟨_, List.getElem?_eq_getElem (by omega)⟩
    have hol : out.length ≤ i := by rw [hp.length_eq, List.length_take]; omega
    have hi9 : i ≤ 1000000 := by omega
    refine r_skip ?_
    refine r_seq ?_
    refine r_block ?_
    refine r_seq ?_
    refine r_region ?_
    refine l_x rfl (x_mv rfl) ?_
    refine l_x rfl (x_len (vec_rd (S1.at 0 rfl)) rfl Tryz.runUnderlying24) ?_
    refine l_x rfl (x_as rfl) ?_
    refine l_nil ?_
    refine r_seq ?_
    refine r_block ?_
    refine r_loop (G := Nat) (fun k => k) (fun k => [(0, vl), (3, vo), (4, .int .i64 i), (5, .int .i64 k)]) (fun k w' => (k ≤ out.length) ∧ (∀ y ∈ out.drop k, a < y) ∧ Own nob w w' [vec EI vo out]) out.length ⟨rfl, rfl, rfl, rfl, trivial⟩ ⟨Nat.le_refl _, by simp, (S1.take 1)⟩ ?_
    rintro k ρ w1b ⟨hk, hdk, S1b⟩ IHb
    refine r_seq ?_
    refine r_seq ?_
    refine r_drawR 14 Tryz.mixed (by kernel_rfl) ?_
    refine w_x rfl (fun w1 h1 => x_mv rfl) ?_
    refine w_x rfl (fun w1 h1 => x_gtr rfl rfl) ?_
    refine w_x rfl (fun w1 h1 => x_mv rfl) ?_
    refine w_splitd (d := 17) rfl (fun hg17 => ?_) (fun hg17 => ?_)
    · skip
      obtain ⟨z, hz⟩ : ∃ z, out[k - 1]? = some z := ⟨_, List.getElem?_eq_getElem (by omega)⟩
      refine w_x rfl (fun w1 h1 => x_mv rfl) ?_
      refine w_x rfl (fun w1 h1 => x_mv rfl) ?_
      refine w_x rfl (fun w1 h1 => x_sub rfl rfl (by omega)) ?_
      refine w_index EI rfl (vec_rd (S1b.at 0 rfl)) rfl rfl Tryz.runUnderlying24 Tryz.sizeOf3 (by omega) (by rw [show ((k : Int) - 1).toNat = k - 1 by omega]; exact hz) ?_
      intro b2 o3 hat4 row5
      refine w_x rfl (fun w1 h1 => x_load rfl (ld_cell Tryz.isAgg3 ((row5.le h1) 0 _ rfl))) ?_
      refine w_x rfl (fun w1 h1 => x_mv rfl) ?_
      refine w_x rfl (fun w1 h1 => x_mv rfl) ?_
      refine w_index EI rfl (hL.le S1b.le) rfl rfl Tryz.runUnderlying24 Tryz.sizeOf3 (by omega) ha ?_
      intro b6 o7 hat8 row9
      refine w_x rfl (fun w1 h1 => x_load rfl (ld_cell Tryz.isAgg3 ((row9.le h1) 0 _ rfl))) ?_
      refine w_x rfl (fun w1 h1 => x_gtr rfl rfl) ?_
      refine w_x rfl (fun w1 h1 => x_pick_t rfl rfl) ?_
      refine w_nil ?_
      intro w10 hl11
      have S12 := S1b.step hl11
      refine l_nil ?_
      refine r_ifd rfl (fun hc28 => ?_) (fun hc28 => ?_)
      · skip
        refine r_skip ?_
        refine r_block ?_
        refine r_region ?_
        refine l_x rfl (x_mv rfl) ?_
        refine l_x rfl (x_sub rfl rfl (by omega)) ?_
        refine l_x rfl (x_as rfl) ?_
        refine l_nil ?_
        refine r_inBlock ?_
        exact IHb (k - 1) _ _ (by omega) ⟨rfl, rfl, rfl, (congrArg (Value.int .i64) (by omega)), trivial⟩ ⟨by omega, dropI_more hz (by omega) hc28 hdk, (S12.take 1)⟩
      refine r_exit rfl ?_
      refine r_seq ?_
      refine r_region ?_
      refine l_buildSlice EI [] S12 rfl Tryz.runUnderlying24 Tryz.sizeOf3 Tryz.zeroValue3 rfl trivial (Nat.le_of_ble_eq_true rfl) ?_
      intro v16 w13 S14 hl15
      refine l_x rfl (x_mv rfl) ?_
      refine l_x rfl (x_mv rfl) ?_
      refine l_head (vec_rd (S14.at 0 rfl)) rfl rfl rfl Tryz.runUnderlying24 Tryz.sizeOf3 (by omega) ?_
      intro v17 ht18
      refine l_append EI S14 1 rfl rfl rfl rfl ht18 Tryz.underlying24 info3 rfl rfl rfl (apn8 (k := (k : Int).toNat) (a := a) hol hi9).1.1 (apn8 (k := (k : Int).toNat) (a := a) hol hi9).1.2 ?_
      intro v22 w19 S20 hk21 hv23
      refine l_x rfl (x_as rfl) ?_
      refine l_nil ?_
      refine r_seq ?_
      refine r_region ?_
      refine l_x rfl (x_mv rfl) ?_
      refine l_x rfl (x_mv rfl) ?_
      refine l_x rfl (x_mv rfl) ?_
      refine l_index EI rfl (hL.le S20.le) rfl rfl Tryz.runUnderlying24 Tryz.sizeOf3 (by omega) ha ?_
      intro b24 o25 hat26 row27
      refine l_x rfl (x_load rfl (ld_cell Tryz.isAgg3 (row27 0 _ rfl))) ?_
      refine l_buildSlice EI [a] S20 rfl Tryz.runUnderlying24 Tryz.sizeOf3 Tryz.zeroValue3 rfl ⟨rfl, rfl, trivial⟩ (Nat.le_of_ble_eq_true rfl) ?_
      intro v31 w28 S29 hl30
      refine l_append EI S29 1 rfl rfl rfl rfl (vec_rd (S29.at 2 rfl)) Tryz.underlying24 info3 rfl rfl rfl (apn8 (k := (k : Int).toNat) (a := a) hol hi9).2.1.1 (apn8 (k := (k : Int).toNat) (a := a) hol hi9).2.1.2 ?_
      intro v35 w32 S33 hk34 hv36
      refine l_x rfl (x_as rfl) ?_
      refine l_nil ?_
      refine r_region ?_
      refine l_x rfl (x_mv rfl) ?_
      refine l_x rfl (x_mv rfl) ?_
      refine l_x rfl (x_mv rfl) ?_
      refine l_tail S33 0 rfl rfl rfl rfl Tryz.runUnderlying24 Tryz.sizeOf3 (by omega) ?_
      intro v37 ht38
      refine l_append EI S33 1 rfl rfl rfl rfl (tail_rd ht38 (S33.at 0 rfl)) Tryz.underlying24 info3 rfl rfl rfl (apn8 (k := (k : Int).toNat) (a := a) hol hi9).2.2.1 (apn8 (k := (k : Int).toNat) (a := a) hol hi9).2.2.2 ?_
      intro v42 w39 S40 hk41 hv43
      refine l_x rfl (x_as rfl) ?_
      refine l_nil ?_
      refine r_inBlock ?_
      refine r_region ?_
      refine l_x rfl (x_mv rfl) ?_
      refine l_x rfl (x_add rfl rfl (by omega)) ?_
      refine l_x rfl (x_as rfl) ?_
      refine l_nil ?_
      exact IH (i + 1, [] ++ out.take (k : Int).toNat ++ [a] ++ out.drop (k : Int).toNat, v42) _ _ (by dsimp only; omega) ⟨rfl, rfl, rfl, trivial⟩ ⟨by omega, put_perm hp ha, put_sorted hs (.inr ⟨z, hz, hc28⟩) hdk, (S40.pick (L' := [_]) [1] (by decide) rfl)⟩
    refine w_pass rfl ?_
    refine w_pass rfl ?_
    refine w_pass rfl ?_
    refine w_pass rfl ?_
    refine w_pass rfl ?_
    refine w_pass rfl ?_
    refine w_pass rfl ?_
    refine w_pass rfl ?_
    refine w_pass rfl ?_
    refine w_pass rfl ?_
    refine w_x rfl (fun w1 h1 => x_pick_f rfl rfl) ?_
    refine w_nil ?_
    intro w44 hl45
    have S46 := S1b.step hl45
    refine l_nil ?_
    refine r_false rfl ?_
    refine r_exit rfl ?_
    refine r_seq ?_
    refine r_region ?_
    refine l_buildSlice EI [] S46 rfl Tryz.runUnderlying24 Tryz.sizeOf3 Tryz.zeroValue3 rfl trivial (Nat.le_of_ble_eq_true rfl) ?_
    intro v50 w47 S48 hl49
    refine l_x rfl (x_mv rfl) ?_
    refine l_x rfl (x_mv rfl) ?_
    refine l_head (vec_rd (S48.at 0 rfl)) rfl rfl rfl Tryz.runUnderlying24 Tryz.sizeOf3 (by omega) ?_
    intro v51 ht52
    refine l_append EI S48 1 rfl rfl rfl rfl ht52 Tryz.underlying24 info3 rfl rfl rfl (apn8 (k := (k : Int).toNat) (a := a) hol hi9).1.1 (apn8 (k := (k : Int).toNat) (a := a) hol hi9).1.2 ?_
    intro v56 w53 S54 hk55 hv57
    refine l_x rfl (x_as rfl) ?_
    refine l_nil ?_
    refine r_seq ?_
    refine r_region ?_
    refine l_x rfl (x_mv rfl) ?_
    refine l_x rfl (x_mv rfl) ?_
    refine l_x rfl (x_mv rfl) ?_
    refine l_index EI rfl (hL.le S54.le) rfl rfl Tryz.runUnderlying24 Tryz.sizeOf3 (by omega) ha ?_
    intro b58 o59 hat60 row61
    refine l_x rfl (x_load rfl (ld_cell Tryz.isAgg3 (row61 0 _ rfl))) ?_
    refine l_buildSlice EI [a] S54 rfl Tryz.runUnderlying24 Tryz.sizeOf3 Tryz.zeroValue3 rfl ⟨rfl, rfl, trivial⟩ (Nat.le_of_ble_eq_true rfl) ?_
    intro v65 w62 S63 hl64
    refine l_append EI S63 1 rfl rfl rfl rfl (vec_rd (S63.at 2 rfl)) Tryz.underlying24 info3 rfl rfl rfl (apn8 (k := (k : Int).toNat) (a := a) hol hi9).2.1.1 (apn8 (k := (k : Int).toNat) (a := a) hol hi9).2.1.2 ?_
    intro v69 w66 S67 hk68 hv70
    refine l_x rfl (x_as rfl) ?_
    refine l_nil ?_
    refine r_region ?_
    refine l_x rfl (x_mv rfl) ?_
    refine l_x rfl (x_mv rfl) ?_
    refine l_x rfl (x_mv rfl) ?_
    refine l_tail S67 0 rfl rfl rfl rfl Tryz.runUnderlying24 Tryz.sizeOf3 (by omega) ?_
    intro v71 ht72
    refine l_append EI S67 1 rfl rfl rfl rfl (tail_rd ht72 (S67.at 0 rfl)) Tryz.underlying24 info3 rfl rfl rfl (apn8 (k := (k : Int).toNat) (a := a) hol hi9).2.2.1 (apn8 (k := (k : Int).toNat) (a := a) hol hi9).2.2.2 ?_
    intro v76 w73 S74 hk75 hv77
    refine l_x rfl (x_as rfl) ?_
    refine l_nil ?_
    refine r_inBlock ?_
    refine r_region ?_
    refine l_x rfl (x_mv rfl) ?_
    refine l_x rfl (x_add rfl rfl (by omega)) ?_
    refine l_x rfl (x_as rfl) ?_
    refine l_nil ?_
    exact IH (i + 1, [] ++ out.take (k : Int).toNat ++ [a] ++ out.drop (k : Int).toNat, v76) _ _ (by dsimp only; omega) ⟨rfl, rfl, rfl, trivial⟩ ⟨by omega, put_perm hp ha, put_sorted hs (.inl (by omega)) hdk, (S74.pick (L' := [_]) [1] (by decide) rfl)⟩
  obtain rfl : i = l.length := by omega
  rw [List.take_length] at hp
  refine r_exit rfl ?_
  refine r_seq ?_
  refine r_region ?_
  refine l_x rfl (x_mv rfl) ?_
  refine l_x rfl (x_as rfl) ?_
  refine l_nil ?_
  refine r_ret (rs := [.tmp 2]) [_] Tryz.func116 rfl ⟨rfl, trivial⟩ ?_
  exact ⟨by rw [asc_eq hp.symm hs]; exact S1.new 0 rfl, S1.le⟩

set_option maxHeartbeats 2000000 in
/-- couchant/couchantref02.Idle. -/
theorem c_rIdle (rs : List Rw) (vl : Value) (known : Int) (w : World) (hD : DsR 26 3 w vl rs) :
    Cl Tryz.prog 52 #[vl, .int .i64 known] w fun v w' => New w w' (vec EI v (idleD (dl rs) known)) ∧ Le w w' := by
  refine fn_of_run (args := [_, _]) 13 Tryz.func52 rfl rfl rfl fun cs => ?_
  have S := Own.start (X := nob) w
  refine r_seq ?_
  refine r_region ?_
  refine l_x rfl (x_as rfl) ?_
  refine l_nil ?_
  refine r_seq ?_
  refine r_region ?_
  refine l_x rfl (x_mv rfl) ?_
  refine l_x rfl (x_mv rfl) ?_
  refine l_call [] [] [_, _] rfl rfl Tryz.call50 rfl (c_rCounting rs vl known _ (hD.le S.le)) ?_
  rintro v71 w1 ⟨rq71, hq71, hm71, hN71, hl71⟩
  have S2 := S.add hl71 hN71
  obtain ⟨rq, hrqe⟩ : ∃ q, q = rq71 := ⟨_, rfl⟩
  subst hrqe
  have hqq := hq71
  have hqm := hm71
  have hlq := ctg_len hqq
  obtain ⟨hqp, hqs⟩ := ctg_play hqq
  refine l_call [] [] [_, _] rfl rfl Tryz.call87 rfl (c_rplay rq _ 100000 hqp hqs _ (hD.mem (S2).le (vec_rd ((S2).at 0 rfl)) hqm (by omega))) ?_
  rintro _ w3 ⟨bs, ns, ms, hms, rfl, hb5⟩
  have S4 := S2.join hb5
  obtain ⟨r, hO, S6⟩ := Own.stOpen (A := [_]) S4
  refine l_x rfl (x_nilCheck rfl) ?_
  refine l_x rfl (x_fieldAddr rfl Tryz.runUnderlying108 rfl Tryz.sizeOf24 (by decide)) ?_
  refine l_x rfl (x_load rfl (ld_blk (S6.blk 1 rfl) Tryz.isAgg24 stI_get)) ?_
  refine l_call [] [] [_] rfl rfl Tryz.call116 rfl (c_rasc r.is _ (by rw [hO.i]; have := (play_okay hqp hqs 100000).i.il; have := List.length_filter_le (fun x => decide (x.day ≤ 100000)) (dl rq); rw [dl_len] at this; omega) _ (vec_rd (S6.at 5 rfl))) ?_
  rintro v127 w7 ⟨hN127, hl127⟩
  have S8 := S6.add hl127 hN127
  refine l_x rfl (x_as rfl) ?_
  refine l_nil ?_
  refine r_ret (rs := [.tmp 4]) [_] Tryz.func52 rfl ⟨rfl, trivial⟩ ?_
  exact ⟨by have hN := S8.new 6 rfl; rw [hO.i, ctg_on hqq] at hN; exact hN, S8.le⟩

set_option maxHeartbeats 2000000 in
/-- couchant/couchantref02.Late. -/
theorem c_rLate (rs : List Rw) (vl : Value) (hlr : rs.length ≤ 1000000000) (w : World) (hD : DsR 26 3 w vl rs) :
    Cl Tryz.prog 54 #[vl] w fun v w' => New w w' (vec EI v (lateD (dl rs))) ∧ Le w w' := by
  have hml := hD.lm
  have hfl := fun i => List.length_filter_le lateP (rs.take i)
  refine fn_of_run (args := [_]) 42 Tryz.func54 rfl rfl rfl fun cs => ?_
  have S := Own.start (X := nob) w
  refine r_seq ?_
  refine r_region ?_
  refine l_x rfl (x_as rfl) ?_
  refine l_nil ?_
  refine r_seq ?_
  refine r_region ?_
  refine l_x rfl (x_as rfl) ?_
  have S1 := S.nilvec (E := EI)
  refine l_nil ?_
  refine r_seq ?_
  refine r_seq ?_
  refine r_region ?_
  refine l_x rfl (x_mv rfl) ?_
  refine l_call [] [] [_] rfl rfl Tryz.call88 rfl (c_rright rs _ _ (hD.le S1.le)) ?_
  rintro _ w2 ⟨rfl, hl4⟩
  have S3 := S1.step hl4
  refine l_x rfl (x_not rfl) ?_
  refine l_nil ?_
  refine r_if rfl (fun hc7 => ?_) (fun hc7 => ?_)
  · skip
    refine r_seq ?_
    refine r_region ?_
    refine l_x rfl (x_as rfl) ?_
    refine l_nil ?_
    refine r_ret (rs := [.tmp 2]) [_] Tryz.func54 rfl ⟨rfl, trivial⟩ ?_
    exact ⟨by rw [lateD, if_neg (by simp_all)]; exact New.nilvec .., S3.le⟩
  refine r_skip ?_
  refine r_seq ?_
  refine r_seq ?_
  refine r_region ?_
  refine l_x rfl (x_as rfl) ?_
  refine l_nil ?_
  refine r_block ?_
  refine r_loop (G := Nat × Value) (fun ⟨i, vo⟩ => rs.length - i) (fun ⟨i, vo⟩ => [(0, vl), (3, vo), (4, .int .i64 i)]) (fun ⟨i, vo⟩ w' => (i ≤ rs.length) ∧ Own nob w w' [vec EI vo (((rs.take i).filter lateP).map (·.1.id))]) (0, .slice none 0 0) ⟨rfl, rfl, rfl, trivial⟩ ⟨Nat.zero_le _, (S3.take 1)⟩ ?_
  rintro ⟨i, vo⟩ ρ w1 ⟨hi, S1⟩ IH
  refine r_seq ?_
  refine r_seq ?_
  refine r_region ?_
  refine l_x rfl (x_mv rfl) ?_
  refine l_x rfl (x_mv rfl) ?_
  refine l_x rfl (x_len (hD.rd.le S1.le) rfl Tryz.runUnderlying23) ?_
  refine l_x rfl (x_lss rfl rfl) ?_
  refine l_nil ?_
  refine r_ifd rfl (fun hc11 => ?_) (fun hc11 => ?_)
  · skip
    obtain ⟨a, ha⟩ : ∃ a, rs[i]? = some a := ⟨_, List.getElem?_eq_getElem (by omega)⟩
    have ham := List.mem_of_getElem? ha
    refine r_skip ?_
    refine r_seq ?_
    refine r_block ?_
    refine r_seq ?_
    refine r_drawR 19 Tryz.mixed (by kernel_rfl) ?_
    refine w_x rfl (fun w1 h1 => x_mv rfl) ?_
    refine w_x rfl (fun w1 h1 => x_mv rfl) ?_
    refine w_index ED rfl (hD.rd.le S1.le) rfl rfl Tryz.runUnderlying23 Tryz.sizeOf26 (by omega) ha ?_
    intro b5 o6 hat7 row8
    refine w_x rfl (fun w1 h1 => x_fieldAddr rfl Tryz.runUnderlying26 rfl Tryz.sizeOf5 (by decide)) ?_
    refine w_x rfl (fun w1 h1 => x_load rfl (ld_cell Tryz.isAgg5 ((row8.le h1) 3 _ rfl))) ?_
    refine w_x rfl (fun w1 h1 => x_neq rfl rfl) ?_
    refine w_x rfl (fun w1 h1 => x_mv rfl) ?_
    refine w_splitd (d := 20) rfl (fun hg20 => ?_) (fun hg20 => ?_)
    · skip
      refine w_x rfl (fun w1 h1 => x_mv rfl) ?_
      refine w_x rfl (fun w1 h1 => x_mv rfl) ?_
      refine w_index ED rfl (hD.rd.le S1.le) rfl rfl Tryz.runUnderlying23 Tryz.sizeOf26 (by omega) ha ?_
      intro b9 o10 hat11 row12
      refine w_x rfl (fun w1 h1 => x_fieldAddr rfl Tryz.runUnderlying26 rfl Tryz.sizeOf3 (by decide)) ?_
      refine w_x rfl (fun w1 h1 => x_load rfl (ld_cell Tryz.isAgg3 ((row12.le h1) 2 _ rfl))) ?_
      refine w_x rfl (fun w1 h1 => x_mv rfl) ?_
      refine w_x rfl (fun w1 h1 => x_mv rfl) ?_
      refine w_index ED rfl (hD.rd.le S1.le) rfl rfl Tryz.runUnderlying23 Tryz.sizeOf26 (by omega) ha ?_
      intro b13 o14 hat15 row16
      refine w_x rfl (fun w1 h1 => x_fieldAddr rfl Tryz.runUnderlying26 rfl Tryz.sizeOf3 (by decide)) ?_
      refine w_x rfl (fun w1 h1 => x_load rfl (ld_cell Tryz.isAgg3 ((row16.le h1) 1 _ rfl))) ?_
      refine w_x rfl (fun w1 h1 => x_gtr rfl rfl) ?_
      refine w_x rfl (fun w1 h1 => x_pick_t rfl rfl) ?_
      refine w_nil ?_
      intro w17 hl18
      have S19 := S1.step hl18
      refine l_nil ?_
      refine r_ifd rfl (fun hc32 => ?_) (fun hc32 => ?_)
      · skip
        refine r_region ?_
        refine l_x rfl (x_mv rfl) ?_
        refine l_x rfl (x_mv rfl) ?_
        refine l_x rfl (x_mv rfl) ?_
        refine l_index ED rfl (hD.rd.le S19.le) rfl rfl Tryz.runUnderlying23 Tryz.sizeOf26 (by omega) ha ?_
        intro b20 o21 hat22 row23
        refine l_x rfl (x_fieldAddr rfl Tryz.runUnderlying26 rfl Tryz.sizeOf3 (by decide)) ?_
        refine l_x rfl (x_load rfl (ld_cell Tryz.isAgg3 (row23 0 _ rfl))) ?_
        refine l_buildSlice EI [a.1.id] S19 rfl Tryz.runUnderlying24 Tryz.sizeOf3 Tryz.zeroValue3 rfl ⟨rfl, rfl, trivial⟩ (Nat.le_of_ble_eq_true rfl) ?_
        intro v27 w24 S25 hl26
        refine l_append EI S25 0 rfl rfl rfl rfl (vec_rd (S25.at 1 rfl)) Tryz.underlying24 info3 rfl rfl rfl (by have := hfl i; rw [List.length_take] at this; unfold maxLen; simp; omega) (by have := hfl i; rw [List.length_take] at this; show _ * 8 ≤ _; simp; omega) ?_
        intro v31 w28 S29 hk30 hv32
        refine l_x rfl (x_as rfl) ?_
        refine l_nil ?_
        refine r_inBlock ?_
        refine r_region ?_
        refine l_x rfl (x_mv rfl) ?_
        refine l_x rfl (x_add rfl rfl (by omega)) ?_
        refine l_x rfl (x_as rfl) ?_
        refine l_nil ?_
        exact IH (i + 1, v31) _ _ (by dsimp only; omega) ⟨rfl, rfl, rfl, trivial⟩ ⟨by omega, (by rw [filter_step ha, if_pos (by simp only [lateP]; first | (simp_all; done) | (simp_all; intros; omega))]; rw [List.map_append]; exact S29.take 1)⟩
      refine r_skip ?_
      refine r_inBlock ?_
      refine r_region ?_
      refine l_x rfl (x_mv rfl) ?_
      refine l_x rfl (x_add rfl rfl (by omega)) ?_
      refine l_x rfl (x_as rfl) ?_
      refine l_nil ?_
      exact IH (i + 1, vo) _ _ (by dsimp only; omega) ⟨rfl, rfl, rfl, trivial⟩ ⟨by omega, (by rw [filter_step ha, if_neg (by simp only [lateP]; first | (simp_all; done) | (simp_all; intros; omega))]; rw [List.append_nil]; exact S19.take 1)⟩
    refine w_pass rfl ?_
    refine w_pass rfl ?_
    refine w_pass rfl ?_
    refine w_pass rfl ?_
    refine w_pass rfl ?_
    refine w_pass rfl ?_
    refine w_pass rfl ?_
    refine w_pass rfl ?_
    refine w_pass rfl ?_
    refine w_pass rfl ?_
    refine w_pass rfl ?_
    refine w_x rfl (fun w1 h1 => x_pick_f rfl rfl) ?_
    refine w_nil ?_
    intro w33 hl34
    have S35 := S1.step hl34
    refine l_nil ?_
    refine r_false rfl ?_
    refine r_skip ?_
    refine r_inBlock ?_
    refine r_region ?_
    refine l_x rfl (x_mv rfl) ?_
    refine l_x rfl (x_add rfl rfl (by omega)) ?_
    refine l_x rfl (x_as rfl) ?_
    refine l_nil ?_
    exact IH (i + 1, vo) _ _ (by dsimp only; omega) ⟨rfl, rfl, rfl, trivial⟩ ⟨by omega, (by rw [filter_step ha, if_neg (by simp only [lateP]; first | (simp_all; done) | (simp_all; intros; omega))]; rw [List.append_nil]; exact S35.take 1)⟩
  obtain rfl : i = rs.length := by omega
  refine r_exit rfl ?_
  refine r_seq ?_
  refine r_region ?_
  refine l_x rfl (x_mv rfl) ?_
  refine l_x rfl (x_as rfl) ?_
  refine l_nil ?_
  refine r_ret (rs := [.tmp 2]) [_] Tryz.func54 rfl ⟨rfl, trivial⟩ ?_
  exact ⟨by rw [lateD, if_pos (by simp_all), ← late_dl]; have hN := S1.new 0 rfl; rw [List.take_length] at hN; exact hN, S1.le⟩

end Go.Proofs
