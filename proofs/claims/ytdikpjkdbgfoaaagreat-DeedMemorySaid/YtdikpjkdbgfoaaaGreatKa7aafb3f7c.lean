/- Texts joined for claims: LMemory. -/
import Derived.Test.YtdikpjkdbgfoaaaGreatKe5e6e1f817
/-
  Contracts of functions of the program: each by symbolic execution of its text.
-/
namespace Go.Proofs
open Go Go.Vk Go.Vk.Flow

open Go.Vk.Deed
theorem dnest_cons {rs : List Rw} {a : Rw} : dnest 3 (a :: rs) = [vec EI (hv a.2.1) a.1.heirs, vec EI (hv a.2.2) a.1.shares] ++ dnest 3 rs := by simp [dnest]
theorem app_formed {rs : List Rw} {l : List D} {x : D} (h : dl rs = (appendD l x).2) : ∀ y ∈ dl rs, formed y = true := by
  intro y hy
  rw [h] at hy
  by_cases h0 : (appendD l x).1 = 0
  · rw [append_ok h0] at hy
    exact right_formed (append_right h0) hy
  · rw [append_no h0] at hy; cases hy
theorem count_formed {rs : List Rw} {l : List D} {known : Int} (h : dl rs = if rightD l = true then counting l known else []) : ∀ y ∈ dl rs, formed y = true := by
  intro y hy
  rw [h] at hy
  split at hy
  · next hR => exact right_formed hR (count_sub hy)
  · cases hy
theorem count_len9 {rs : List Rw} {l : List D} {known : Int} (h : dl rs = if rightD l = true then counting l known else []) : rs.length ≤ 400 := by
  rw [← dl_len, h]
  split
  · next hR => exact count_len hR
  · exact Nat.zero_le _
theorem app_len9 {rs : List Rw} {l : List D} {x : D} (h : dl rs = (appendD l x).2) : rs.length ≤ 400 := by
  rw [← dl_len, h]
  by_cases h0 : (appendD l x).1 = 0
  · rw [append_ok h0]; exact right_len (append_right h0)
  · rw [append_no h0]; exact Nat.zero_le _
theorem big_lens {rs : List Rw} (h : ∀ y ∈ dl rs, formed y = true) : ∀ a ∈ rs, a.1.heirs.length ≤ 9223372036854775807 ∧ a.1.shares.length ≤ 9223372036854775807 := fun a ha => by
  have := lens_of h a ha; omega
theorem few_lens {rs : List Rw} (h : fewB (dl rs) = true) : rs.length ≤ 24 ∧ ∀ a ∈ rs, a.1.heirs.length ≤ 20 ∧ a.1.shares.length ≤ 20 := by
  rw [fewB, Bool.and_eq_true, decide_eq_true_iff, List.all_eq_true, dl_len] at h
  refine ⟨h.1, fun a ha => ?_⟩
  have := h.2 a.1 (mem_dl ha)
  simpa [plainB] using this
theorem same_lens {rs qs : List Rw} (h : fewB (dl rs) = true) (e : dl qs = dl rs) : qs.length ≤ 24 ∧ ∀ a ∈ qs, a.1.heirs.length ≤ 20 ∧ a.1.shares.length ≤ 20 := few_lens (by rw [e]; exact h)
theorem Own.gone {X : Nat → Prop} {w0 w : World} {L : List Rsc} (S : Own X w0 w L) : Own X w0 w [nilR] := (S.take 0).add (Le.refl _) ⟨trivial, fun _ h => h.elim⟩

set_option maxHeartbeats 2000000 in
/-- couchant/couchantlaw02.copied. -/
theorem c_lcopied (rs : List Rw) (vl : Value) (hml4 : rs.length ≤ 1000000) (hh : ∀ a ∈ rs, a.1.heirs.length ≤ 1000000000 ∧ a.1.shares.length ≤ 1000000000) (w : World) (hD : DsR 26 3 w vl rs) :
    Cl Tryz.prog 58 #[vl] w fun v w' => ∃ rs', dl rs' = dl rs ∧ Own nob w w' [vec ED v rs', pack (dnest 3 rs')] := by
  have hml := hD.lm
  refine fn_of_run (args := [_]) 37 Tryz.func58 rfl rfl rfl fun cs => ?_
  have S := Own.start (X := nob) w
  refine r_seq ?_
  refine r_region ?_
  refine l_x rfl (x_as rfl) ?_
  refine l_nil ?_
  refine r_seq ?_
  refine r_region ?_
  refine l_buildSlice ED [] S rfl Tryz.runUnderlying23 Tryz.sizeOf26 Tryz.zeroValue26 rfl trivial (Nat.le_of_ble_eq_true rfl) ?_
  intro v4 w1 S2 hl3
  refine l_x rfl (x_mv rfl) ?_
  refine l_append ED S2 0 rfl rfl rfl rfl (hD.rd.le S2.le) Tryz.underlying23 info26 rfl rfl rfl (by unfold maxLen; rw [List.length_nil]; omega) (by rw [List.length_nil]; show _ * 120 ≤ _; omega) ?_
  intro v8 w5 S6 hk7 hv9
  refine l_x rfl (x_as rfl) ?_
  refine l_nil ?_
  refine r_seq ?_
  refine r_seq ?_
  refine r_region ?_
  refine l_x rfl (x_as rfl) ?_
  refine l_nil ?_
  refine r_block ?_
  refine r_loop (G := Nat × List Rw) (fun ⟨i, done⟩ => rs.length - i) (fun ⟨i, done⟩ => [(3, v8), (4, .int .i64 i)]) (fun ⟨i, done⟩ w' => (i ≤ rs.length) ∧ (done.length = i) ∧ (dl done = dl (rs.take i)) ∧ Own nob w w' [vec ED v8 (done ++ rs.drop i), pack (dnest 3 done)]) (0, []) ⟨rfl, rfl, trivial⟩ ⟨Nat.zero_le _, rfl, rfl, (by rw [List.drop_zero]; exact Own.nopack S6)⟩ ?_
  rintro ⟨i, done⟩ ρ w1 ⟨hi, hdn, hdd, S1⟩ IH
  have hln : (done ++ rs.drop i).length = rs.length := by rw [List.length_append, List.length_drop]; omega
  refine r_seq ?_
  refine r_seq ?_
  refine r_region ?_
  refine l_x rfl (x_mv rfl) ?_
  refine l_x rfl (x_mv rfl) ?_
  refine l_x rfl (x_len (vec_rd (S1.at 0 rfl)) rfl Tryz.runUnderlying23) ?_
  refine l_x rfl (x_lss rfl rfl) ?_
  refine l_nil ?_
  refine r_ifd rfl (fun hc11 => ?_) (fun hc11 => ?_)
  · skip
    obtain ⟨a, ha⟩ : ∃ a, rs[i]? = some a := ⟨_, List.getElem?_eq_getElem (by omega)⟩
    have ham := List.mem_of_getElem? ha
    have hlh := hh a ham
    have hg0 := put_get hdn ha
    refine r_skip ?_
    refine r_seq ?_
    refine r_block ?_
    refine r_seq ?_
    refine r_region ?_
    refine l_x rfl (x_mv rfl) ?_
    refine l_x rfl (x_mv rfl) ?_
    refine l_buildSlice EI [] S1 rfl Tryz.runUnderlying24 Tryz.sizeOf3 Tryz.zeroValue3 rfl trivial (Nat.le_of_ble_eq_true rfl) ?_
    intro v13 w10 S11 hl12
    refine l_x rfl (x_mv rfl) ?_
    refine l_x rfl (x_mv rfl) ?_
    refine l_index ED rfl (vec_rd (S11.at 0 rfl)) rfl rfl Tryz.runUnderlying23 Tryz.sizeOf26 (by omega) hg0 ?_
    intro b14 o15 hat16 row17
    refine l_x rfl (x_fieldAddr rfl Tryz.runUnderlying26 rfl Tryz.sizeOf24 (by decide)) ?_
    refine l_x rfl (x_load rfl (ld_cell Tryz.isAgg24 (row17 9 _ rfl))) ?_
    refine l_append EI S11 2 rfl rfl rfl rfl ((hD.sub a ham).1.le S11.le) Tryz.underlying24 info3 rfl rfl rfl (by have := hlh.1; unfold maxLen; rw [List.length_nil]; omega) (by have := hlh.1; rw [List.length_nil]; show _ * 8 ≤ _; omega) ?_
    intro v21 w18 S19 hk20 hv22
    obtain ⟨dd23, rfl⟩ := rd_hv (vec_rd (S19.at 2 rfl))
    refine l_index ED rfl (vec_rd (S19.at 0 rfl)) rfl rfl Tryz.runUnderlying23 Tryz.sizeOf26 (by omega) hg0 ?_
    intro b24 o25 hat26 row27
    refine l_x rfl (x_fieldAddr rfl Tryz.runUnderlying26 rfl Tryz.sizeOf24 (by decide)) ?_
    refine l_storev1 (a' := (a.1, dd23, a.2.2)) (f := 9) S19 0 rfl rfl hat26 rfl rfl (Rd.one (vec_rd (S19.at 2 rfl))) Tryz.sizeOf24 hg0 (by decide) rfl ?_
    intro w28 S29 hk30
    refine l_nil ?_
    refine r_region ?_
    refine l_x rfl (x_mv rfl) ?_
    refine l_x rfl (x_mv rfl) ?_
    refine l_buildSlice EI [] S29 rfl Tryz.runUnderlying24 Tryz.sizeOf3 Tryz.zeroValue3 rfl trivial (Nat.le_of_ble_eq_true rfl) ?_
    intro v34 w31 S32 hl33
    refine l_x rfl (x_mv rfl) ?_
    refine l_x rfl (x_mv rfl) ?_
    refine l_index ED rfl (vec_rd (S32.at 0 rfl)) rfl rfl Tryz.runUnderlying23 Tryz.sizeOf26 (by omega) (put_get2 hdn ha) ?_
    intro b35 o36 hat37 row38
    refine l_x rfl (x_fieldAddr rfl Tryz.runUnderlying26 rfl Tryz.sizeOf24 (by decide)) ?_
    refine l_x rfl (x_load rfl (ld_cell Tryz.isAgg24 (row38 10 _ rfl))) ?_
    refine l_append EI S32 3 rfl rfl rfl rfl ((hD.sub a ham).2.le S32.le) Tryz.underlying24 info3 rfl rfl rfl (by have := hlh.2; unfold maxLen; rw [List.length_nil]; omega) (by have := hlh.2; rw [List.length_nil]; show _ * 8 ≤ _; omega) ?_
    intro v42 w39 S40 hk41 hv43
    obtain ⟨dd44, rfl⟩ := rd_hv (vec_rd (S40.at 3 rfl))
    refine l_index ED rfl (vec_rd (S40.at 0 rfl)) rfl rfl Tryz.runUnderlying23 Tryz.sizeOf26 (by omega) (put_get2 hdn ha) ?_
    intro b45 o46 hat47 row48
    refine l_x rfl (x_fieldAddr rfl Tryz.runUnderlying26 rfl Tryz.sizeOf24 (by decide)) ?_
    refine l_storev1 (a' := (a.1, dd23, dd44)) (f := 10) S40 0 rfl rfl hat47 rfl rfl (Rd.one (vec_rd (S40.at 3 rfl))) Tryz.sizeOf24 (put_get2 hdn ha) (by decide) rfl ?_
    intro w49 S50 hk51
    refine l_nil ?_
    refine r_inBlock ?_
    refine r_region ?_
    refine l_x rfl (x_mv rfl) ?_
    refine l_x rfl (x_add rfl rfl (by omega)) ?_
    refine l_x rfl (x_as rfl) ?_
    refine l_nil ?_
    have Sx := S50.pick (L' := [_, _, _, _]) [0, 3, 1, 2] (by decide) rfl
    have Sx := Own.into (A := [_, _]) Sx
    have Sy := Sx.pick (L' := [_, _, _]) [0, 2, 1] (by decide) rfl
    have Sz := Own.into (A := [_]) Sy
    rw [List.nil_append, List.nil_append, ← dnest_snoc (a := (a.1, dd23, dd44)), Int.toNat_natCast, put_set2 hdn ha] at Sz
    exact IH (i + 1, done ++ [(a.1, dd23, dd44)]) _ _ (by dsimp only; omega) ⟨rfl, rfl, trivial⟩ ⟨by omega, by rw [List.length_append, hdn]; rfl, copy_step hdd ha, Sz⟩
  · skip
    obtain rfl : i = rs.length := by omega
    rw [List.take_length] at hdd
    rw [List.drop_length, List.append_nil] at S1
    refine r_exit rfl ?_
    refine r_seq ?_
    refine r_region ?_
    refine l_x rfl (x_mv rfl) ?_
    refine l_x rfl (x_as rfl) ?_
    refine l_nil ?_
    refine r_ret (rs := [.tmp 2]) [_] Tryz.func58 rfl ⟨rfl, trivial⟩ ?_
    exact ⟨done, hdd, S1⟩

set_option maxHeartbeats 2000000 in
/-- couchant/couchantlaw02.spoil. -/
theorem c_spoil (rs : List Rw) (v0 : Value) (hml4 : rs.length ≤ 1000000) (hh : ∀ a ∈ rs, a.1.heirs.length ≤ 1000000000 ∧ a.1.shares.length ≤ 1000000000) (w : World) (S0 : Own (pack [vec ED v0 rs, pack (dnest 3 rs)]).fp w w [(pack [vec ED v0 rs, pack (dnest 3 rs)])]) :
    Cl Tryz.prog 59 #[v0] w fun _ w' => Own (pack [vec ED v0 rs, pack (dnest 3 rs)]).fp w w' [nilR] := by
  refine fn_of_run (args := [_]) 49 Tryz.func59 rfl rfl rfl fun cs => ?_
  have S := S0.open
  refine r_seq ?_
  refine r_region ?_
  refine l_x rfl (x_as rfl) ?_
  refine l_nil ?_
  refine r_block ?_
  refine r_loop (G := Nat × List Rw) (fun ⟨i, done⟩ => rs.length - i) (fun ⟨i, done⟩ => [(0, v0), (2, .int .i64 i)]) (fun ⟨i, done⟩ w' => (i ≤ rs.length) ∧ (done.length = i) ∧ Own (pack [vec ED v0 rs, pack (dnest 3 rs)]).fp w w' [vec ED v0 (done ++ rs.drop i), pack (dnest 3 (rs.drop i))]) (0, []) ⟨rfl, rfl, trivial⟩ ⟨Nat.zero_le _, rfl, (by rw [List.drop_zero]; exact S)⟩ ?_
  rintro ⟨i, done⟩ ρ w1 ⟨hi, hdn, S1⟩ IH
  have hln : (done ++ rs.drop i).length = rs.length := by rw [List.length_append, List.length_drop]; omega
  refine r_seq ?_
  refine r_seq ?_
  refine r_region ?_
  refine l_x rfl (x_mv rfl) ?_
  refine l_x rfl (x_mv rfl) ?_
  refine l_x rfl (x_len (vec_rd (S1.at 0 rfl)) rfl Tryz.runUnderlying23) ?_
  refine l_x rfl (x_lss rfl rfl) ?_
  refine l_nil ?_
  refine r_ifd rfl (fun hc8 => ?_) (fun hc8 => ?_)
  · skip
    skip
    have hlen : (done ++ rs.drop i).length = rs.length := by rw [List.length_append, List.length_drop]; omega
    obtain ⟨a, ha⟩ : ∃ a, rs[i]? = some a := ⟨_, List.getElem?_eq_getElem (by omega)⟩
    have ham := List.mem_of_getElem? ha
    have hlh := hh a ham
    have hdr := drop_get ha
    have hga : (done ++ a :: rs.drop (i + 1))[i]? = some a := by rw [List.getElem?_append_right (by omega), hdn, Nat.sub_self]; rfl
    refine r_skip ?_
    refine r_seq ?_
    refine r_block ?_
    refine r_seq ?_
    refine r_seq ?_
    have Su := Own.unpack (A := [_]) (by have hq := S1; rw [hdr] at hq; exact hq)
    rw [dnest_cons] at Su
    have Sv := Own.pack (A := [_, _, _]) (L := dnest 3 (rs.drop (i + 1))) Su
    refine r_region ?_
    refine l_x rfl (x_as rfl) ?_
    refine l_nil ?_
    refine r_block ?_
    refine r_loop (G := Nat × List Int) (fun ⟨k, hl⟩ => a.1.heirs.length - k) (fun ⟨k, hl⟩ => [(0, v0), (2, .int .i64 i), (3, .int .i64 k)]) (fun ⟨k, hl⟩ w' => (k ≤ a.1.heirs.length) ∧ (hl.length = a.1.heirs.length) ∧ Own (pack [vec ED v0 rs, pack (dnest 3 rs)]).fp w w' [vec ED v0 (done ++ a :: rs.drop (i + 1)), vec EI (hv a.2.1) hl, vec EI (hv a.2.2) a.1.shares, pack (dnest 3 (rs.drop (i + 1)))]) (0, a.1.heirs) ⟨rfl, rfl, rfl, trivial⟩ ⟨Nat.zero_le _, rfl, (Sv.take 4)⟩ ?_
    rintro ⟨k, hl⟩ ρ w1b ⟨hk, hhl, S1b⟩ IHb
    refine r_seq ?_
    refine r_seq ?_
    refine r_region ?_
    refine l_x rfl (x_mv rfl) ?_
    refine l_x rfl (x_mv rfl) ?_
    refine l_x rfl (x_mv rfl) ?_
    refine l_index ED rfl (vec_rd (S1b.at 0 rfl)) rfl rfl Tryz.runUnderlying23 Tryz.sizeOf26 (by omega) hga ?_
    intro b1 o2 hat3 row4
    refine l_x rfl (x_fieldAddr rfl Tryz.runUnderlying26 rfl Tryz.sizeOf24 (by decide)) ?_
    refine l_x rfl (x_load rfl (ld_cell Tryz.isAgg24 (row4 9 _ rfl))) ?_
    refine l_x rfl (x_len (vec_rd (S1b.at 1 rfl)) rfl Tryz.runUnderlying24) ?_
    refine l_x rfl (x_lss rfl rfl) ?_
    refine l_nil ?_
    refine r_ifd rfl (fun hc18 => ?_) (fun hc18 => ?_)
    · skip
      obtain ⟨x, hx⟩ : ∃ x, hl[k]? = some x := ⟨_, List.getElem?_eq_getElem (by omega)⟩
      refine r_skip ?_
      refine r_seq ?_
      refine r_block ?_
      refine r_region ?_
      refine l_x rfl (x_mv rfl) ?_
      refine l_x rfl (x_mv rfl) ?_
      refine l_index ED rfl (vec_rd (S1b.at 0 rfl)) rfl rfl Tryz.runUnderlying23 Tryz.sizeOf26 (by omega) hga ?_
      intro b5 o6 hat7 row8
      refine l_x rfl (x_fieldAddr rfl Tryz.runUnderlying26 rfl Tryz.sizeOf24 (by decide)) ?_
      refine l_x rfl (x_load rfl (ld_cell Tryz.isAgg24 (row8 9 _ rfl))) ?_
      refine l_x rfl (x_mv rfl) ?_
      refine l_index EI rfl (vec_rd (S1b.at 1 rfl)) rfl rfl Tryz.runUnderlying24 Tryz.sizeOf3 (by omega) hx ?_
      intro b9 o10 hat11 row12
      refine l_storevi (f := 0) S1b 1 rfl rfl hat11 rfl rfl Tryz.sizeOf3 hx (by decide) rfl ?_
      intro w13 S14 hk15
      refine l_nil ?_
      refine r_inBlock ?_
      refine r_region ?_
      refine l_x rfl (x_mv rfl) ?_
      refine l_x rfl (x_add rfl rfl (by omega)) ?_
      refine l_x rfl (x_as rfl) ?_
      refine l_nil ?_
      exact IHb (k + 1, hl.set k (-7)) _ _ (by dsimp only; omega) ⟨rfl, rfl, rfl, trivial⟩ ⟨by omega, by rw [List.length_set]; exact hhl, (S14.take 4)⟩
    · skip
      obtain ⟨hl0, hl0e⟩ : ∃ q, q = hl := ⟨_, rfl⟩
      subst hl0e
      refine r_exit rfl ?_
      refine r_seq ?_
      refine r_seq ?_
      refine r_region ?_
      refine l_x rfl (x_as rfl) ?_
      refine l_nil ?_
      refine r_block ?_
      refine r_loop (G := Nat × List Int) (fun ⟨k, hl⟩ => a.1.shares.length - k) (fun ⟨k, hl⟩ => [(0, v0), (2, .int .i64 i), (4, .int .i64 k)]) (fun ⟨k, hl⟩ w' => (k ≤ a.1.shares.length) ∧ (hl.length = a.1.shares.length) ∧ Own (pack [vec ED v0 rs, pack (dnest 3 rs)]).fp w w' [vec ED v0 (done ++ a :: rs.drop (i + 1)), vec EI (hv a.2.1) hl0, vec EI (hv a.2.2) hl, pack (dnest 3 (rs.drop (i + 1)))]) (0, a.1.shares) ⟨rfl, rfl, rfl, trivial⟩ ⟨Nat.zero_le _, rfl, (S1b.take 4)⟩ ?_
      rintro ⟨k, hl⟩ ρ w1c ⟨hk, hhl, S1c⟩ IHc
      refine r_seq ?_
      refine r_seq ?_
      refine r_region ?_
      refine l_x rfl (x_mv rfl) ?_
      refine l_x rfl (x_mv rfl) ?_
      refine l_x rfl (x_mv rfl) ?_
      refine l_index ED rfl (vec_rd (S1c.at 0 rfl)) rfl rfl Tryz.runUnderlying23 Tryz.sizeOf26 (by omega) hga ?_
      intro b16 o17 hat18 row19
      refine l_x rfl (x_fieldAddr rfl Tryz.runUnderlying26 rfl Tryz.sizeOf24 (by decide)) ?_
      refine l_x rfl (x_load rfl (ld_cell Tryz.isAgg24 (row19 10 _ rfl))) ?_
      refine l_x rfl (x_len (vec_rd (S1c.at 2 rfl)) rfl Tryz.runUnderlying24) ?_
      refine l_x rfl (x_lss rfl rfl) ?_
      refine l_nil ?_
      refine r_ifd rfl (fun hc35 => ?_) (fun hc35 => ?_)
      · skip
        obtain ⟨x, hx⟩ : ∃ x, hl[k]? = some x := ⟨_, List.getElem?_eq_getElem (by omega)⟩
        refine r_skip ?_
        refine r_seq ?_
        refine r_block ?_
        refine r_region ?_
        refine l_x rfl (x_mv rfl) ?_
        refine l_x rfl (x_mv rfl) ?_
        refine l_index ED rfl (vec_rd (S1c.at 0 rfl)) rfl rfl Tryz.runUnderlying23 Tryz.sizeOf26 (by omega) hga ?_
        intro b20 o21 hat22 row23
        refine l_x rfl (x_fieldAddr rfl Tryz.runUnderlying26 rfl Tryz.sizeOf24 (by decide)) ?_
        refine l_x rfl (x_load rfl (ld_cell Tryz.isAgg24 (row23 10 _ rfl))) ?_
        refine l_x rfl (x_mv rfl) ?_
        refine l_index EI rfl (vec_rd (S1c.at 2 rfl)) rfl rfl Tryz.runUnderlying24 Tryz.sizeOf3 (by omega) hx ?_
        intro b24 o25 hat26 row27
        refine l_storevi (f := 0) S1c 2 rfl rfl hat26 rfl rfl Tryz.sizeOf3 hx (by decide) rfl ?_
        intro w28 S29 hk30
        refine l_nil ?_
        refine r_inBlock ?_
        refine r_region ?_
        refine l_x rfl (x_mv rfl) ?_
        refine l_x rfl (x_add rfl rfl (by omega)) ?_
        refine l_x rfl (x_as rfl) ?_
        refine l_nil ?_
        exact IHc (k + 1, hl.set k (-7)) _ _ (by dsimp only; omega) ⟨rfl, rfl, rfl, trivial⟩ ⟨by omega, by rw [List.length_set]; exact hhl, (S29.take 4)⟩
      · skip
        refine r_exit rfl ?_
        refine r_region ?_
        refine l_x rfl (x_mv rfl) ?_
        refine l_x rfl (x_mv rfl) ?_
        refine l_x rfl (x_buildS (out := [_, _, _, _, _, _, _, _, _, _, _]) (ss := [1, 1, 1, 1, 1, 1, 1, 1, 1, 1, 1]) Tryz.zeroValue26 rfl Tryz.runUnderlying26 ⟨Tryz.sizeOf3, Tryz.sizeOf3, Tryz.sizeOf3, Tryz.sizeOf5, Tryz.sizeOf3, Tryz.sizeOf3, Tryz.sizeOf3, Tryz.sizeOf3, Tryz.sizeOf3, Tryz.sizeOf24, Tryz.sizeOf24, trivial⟩ (fill_cons rfl rfl rfl (Nat.le_of_ble_eq_true rfl) fill_nil)) ?_
        refine l_index ED rfl (vec_rd (S1c.at 0 rfl)) rfl rfl Tryz.runUnderlying23 Tryz.sizeOf26 (by omega) hga ?_
        intro b31 o32 hat33 row34
        refine l_storeva (a' := ((⟨-7, 0, 0, 0, 0, 0, 0, 0, 0, [], []⟩ : D), ((none, 0, 0) : Hd), ((none, 0, 0) : Hd))) S1c 0 rfl rfl hat33 rfl rfl Tryz.sizeOf26 hga rfl ?_
        intro w35 S36 hk37
        refine l_nil ?_
        refine r_inBlock ?_
        refine r_region ?_
        refine l_x rfl (x_mv rfl) ?_
        refine l_x rfl (x_add rfl rfl (by omega)) ?_
        refine l_x rfl (x_as rfl) ?_
        refine l_nil ?_
        exact IH (i + 1, done ++ [((⟨-7, 0, 0, 0, 0, 0, 0, 0, 0, [], []⟩ : D), ((none, 0, 0) : Hd), ((none, 0, 0) : Hd))]) _ _ (by dsimp only; omega) ⟨rfl, rfl, trivial⟩ ⟨by omega, by rw [List.length_append, hdn]; rfl, (by have hq := S36.pick (L' := [_, _]) [0, 3] (by decide) rfl; rw [Int.toNat_natCast, List.set_append_right _ _ (by omega), hdn, Nat.sub_self, List.set_cons_zero] at hq; rw [List.append_assoc]; exact hq)⟩
  · skip
    refine r_exit rfl ?_
    refine r_end (rs := []) [] Tryz.func59 rfl trivial ?_
    exact Own.gone S1

set_option maxHeartbeats 4000000 in
/-- couchant/couchantlaw02.DeedMemory. -/
theorem lawMemory (rs : List Rw) (vl : Value) (a : Rw) (known : Int) (w : World) (hD : DsR 26 3 w vl rs) (hA : SubR 3 w a) :
    Cl Tryz.prog 12 #[vl, .agg (encD a).toArray, .int .i64 known] w fun v w' => v = .bool true ∧ Le w w' := by
  refine fn_of_run (args := [_, _, _]) 67 Tryz.func12 rfl rfl rfl fun cs => ?_
  have S := Own.start (X := nob) w
  refine r_seq ?_
  refine r_region ?_
  refine l_box S rfl rfl ?_
  intro b4 w1 S2 hl3
  refine l_x rfl (x_as rfl) ?_
  refine l_nil ?_
  refine r_seq ?_
  refine r_seq ?_
  refine r_region ?_
  refine l_x rfl (x_mv rfl) ?_
  refine l_call [] [] [_] rfl rfl Tryz.call25 rfl (c_few rs _ _ (hD.le S2.le)) ?_
  rintro _ w5 ⟨rfl, hl7⟩
  have S6 := S2.step hl7
  refine l_x rfl (x_not rfl) ?_
  refine l_x rfl (x_mv rfl) ?_
  refine l_split (d := 18) rfl (fun hg18 => ?_) (fun hg18 => ?_)
  · skip
    refine l_pass rfl ?_
    refine l_pass rfl ?_
    refine l_pass rfl ?_
    refine l_x rfl (x_pick_t rfl rfl) ?_
    refine l_nil ?_
    refine r_true rfl ?_
    refine r_seq ?_
    refine r_region ?_
    refine l_call [] [] [] rfl rfl Tryz.call23 rfl (c_enteredX _) ?_
    rintro _ w8 ⟨rfl, hl10⟩
    have S9 := S6.step hl10
    refine l_x rfl (x_as rfl) ?_
    refine l_nil ?_
    refine r_ret (rs := [.tmp 6]) [_] Tryz.func12 rfl ⟨rfl, trivial⟩ ?_
    exact ⟨rfl, S9.le⟩
  · skip
    have hF : fewB (dl rs) = true := by simpa using hg18
    refine l_x rfl (x_load rfl (ld_blks (S6.blk 0 rfl) Tryz.isAgg26 Tryz.sizeOf26 rfl rfl)) ?_
    refine l_call [] [] [_] rfl rfl Tryz.call26 rfl (c_plain a _ (hA.le S6.le)) ?_
    rintro _ w11 ⟨rfl, hl13⟩
    have S12 := S6.step hl13
    refine l_x rfl (x_not rfl) ?_
    refine l_x rfl (x_pick_f rfl rfl) ?_
    refine l_nil ?_
    refine r_if rfl (fun hc22 => ?_) (fun hc22 => ?_)
    · skip
      refine r_seq ?_
      refine r_region ?_
      refine l_call [] [] [] rfl rfl Tryz.call23 rfl (c_enteredX _) ?_
      rintro _ w14 ⟨rfl, hl16⟩
      have S15 := S12.step hl16
      refine l_x rfl (x_as rfl) ?_
      refine l_nil ?_
      refine r_ret (rs := [.tmp 6]) [_] Tryz.func12 rfl ⟨rfl, trivial⟩ ?_
      exact ⟨rfl, S15.le⟩
    · skip
      refine r_skip ?_
      refine r_seq ?_
      refine r_region ?_
      refine l_x rfl (x_mv rfl) ?_
      refine l_call [] [] [_] rfl rfl Tryz.call58 rfl (c_lcopied rs _ (by have := (few_lens hF).1; omega) (fun a ha => by have := (few_lens hF).2 a ha; omega) _ (hD.le S12.le)) ?_
      rintro v2517 w17 ⟨rqW, hqW, hO2517⟩
      have S18 := S12.join hO2517
      have hlW := same_lens hF hqW
      refine l_x rfl (x_as rfl) ?_
      refine l_nil ?_
      refine r_seq ?_
      refine r_region ?_
      refine l_x rfl (x_mv rfl) ?_
      refine l_x rfl (x_mv rfl) ?_
      refine l_call [] [] [_, _] rfl rfl Tryz.call49 rfl (c_Counting rs vl known _ (hD.le S18.le)) ?_
      rintro v2819 w19 ⟨rqA, hqA, hO2819⟩
      have S20 := S18.join hO2819
      have hfA := count_formed hqA
      have hnA := count_len9 hqA
      refine l_x rfl (x_as rfl) ?_
      refine l_nil ?_
      refine r_seq ?_
      refine r_region ?_
      refine l_x rfl (x_mv rfl) ?_
      refine l_call [] [] [_] rfl rfl Tryz.call58 rfl (c_lcopied rqA _ (by have := hnA; omega) (lens_of hfA) _ (dnest_dsr ((S20).at 3 rfl) ((S20).at 4 rfl) (big_lens hfA) (by have := hnA; omega))) ?_
      rintro v3021 w21 ⟨rqB, hqB, hO3021⟩
      have S22 := S20.join hO3021
      have hfB : ∀ y ∈ dl rqB, formed y = true := by rw [hqB]; exact hfA
      have hnB : rqB.length ≤ 400 := by rw [← dl_len, hqB, dl_len]; exact hnA
      refine l_x rfl (x_as rfl) ?_
      refine l_nil ?_
      refine r_seq ?_
      refine r_region ?_
      refine l_x rfl (x_mv rfl) ?_
      refine l_x rfl (x_load rfl (ld_blks (S22.blk 0 rfl) Tryz.isAgg26 Tryz.sizeOf26 rfl rfl)) ?_
      refine l_call [] [] [_, _] rfl rfl Tryz.call42 rfl (c_Append rs vl a _ (hD.le S22.le) (hA.le S22.le)) ?_
      rintro _ w23 ⟨sM, rqM, eM, rfl, heM, hqM, h25⟩
      have S24 := S22.join h25
      have hfM := app_formed hqM
      have hnM := app_len9 hqM
      refine l_x rfl (x_mv rfl) ?_
      refine l_x rfl (x_extract rfl rfl) ?_
      refine l_x rfl (x_extract rfl rfl) ?_
      refine l_x rfl (x_as rfl) ?_
      refine l_x rfl (x_as rfl) ?_
      refine l_nil ?_
      refine r_seq ?_
      refine r_region ?_
      refine l_x rfl (x_mv rfl) ?_
      refine l_call [] [] [_] rfl rfl Tryz.call58 rfl (c_lcopied rqM _ (by have := hnM; omega) (lens_of hfM) _ (dnest_dsr ((S24).at 7 rfl) ((S24).at 8 rfl) (big_lens hfM) (by have := hnM; omega))) ?_
      rintro v3826 w26 ⟨rqN, hqN, hO3826⟩
      have S27 := S24.join hO3826
      have hfN : ∀ y ∈ dl rqN, formed y = true := by rw [hqN]; exact hfM
      have hnN : rqN.length ≤ 400 := by rw [← dl_len, hqN, dl_len]; exact hnM
      refine l_x rfl (x_as rfl) ?_
      refine l_nil ?_
      refine r_seq ?_
      refine r_region ?_
      refine l_x rfl (x_mv rfl) ?_
      have S28 := S27.pick (L' := [_, _, _, _, _, _, _, _, _, _, _]) [0, 1, 2, 5, 6, 7, 8, 9, 10, 3, 4] (by decide) rfl
      have S29 := Own.pack (A := [_, _, _, _, _, _, _, _, _]) (L := [_, _]) S28
      refine l_call [] [] [_] rfl rfl Tryz.call59 rfl (c_spoil rqA _ (by have := hnA; omega) (lens_of hfA) _ (S29.lend 9 rfl)) ?_
      intro _ w30 hb31
      have S32 := S29.back 9 rfl hb31
      have S33 := S32.take 9
      refine l_nil ?_
      refine r_seq ?_
      refine r_region ?_
      refine l_x rfl (x_mv rfl) ?_
      have S34 := S33.pick (L' := [_, _, _, _, _, _, _, _, _]) [0, 1, 2, 3, 4, 7, 8, 5, 6] (by decide) rfl
      have S35 := Own.pack (A := [_, _, _, _, _, _, _]) (L := [_, _]) S34
      refine l_call [] [] [_] rfl rfl Tryz.call59 rfl (c_spoil rqM _ (by have := hnM; omega) (lens_of hfM) _ (S35.lend 7 rfl)) ?_
      intro _ w36 hb37
      have S38 := S35.back 7 rfl hb37
      have S39 := S38.take 7
      refine l_nil ?_
      refine r_seq ?_
      refine r_region ?_
      refine l_x rfl (x_mv rfl) ?_
      refine l_x rfl (x_load rfl (ld_blks (S39.blk 0 rfl) Tryz.isAgg26 Tryz.sizeOf26 rfl rfl)) ?_
      refine l_call [] [] [_, _] rfl rfl Tryz.call42 rfl (c_Append rs vl a _ (hD.le S39.le) (hA.le S39.le)) ?_
      rintro _ w40 ⟨sY, rqY, eY, rfl, heY, hqY, h42⟩
      have S41 := S39.join h42
      have hfY := app_formed hqY
      have hnY := app_len9 hqY
      refine l_x rfl (x_mv rfl) ?_
      refine l_x rfl (x_extract rfl rfl) ?_
      refine l_x rfl (x_extract rfl rfl) ?_
      refine l_x rfl (x_as rfl) ?_
      refine l_x rfl (x_as rfl) ?_
      refine l_nil ?_
      refine r_seq ?_
      refine r_region ?_
      refine l_call [] [] [] rfl rfl Tryz.call23 rfl (c_enteredX _) ?_
      rintro _ w43 ⟨rfl, hl45⟩
      have S44 := S41.step hl45
      refine l_x rfl (x_mv rfl) ?_
      refine l_x rfl (x_mv rfl) ?_
      refine l_x rfl (x_mv rfl) ?_
      refine l_call [] [] [_, _] rfl rfl Tryz.call46 rfl ((c_SameDeeds _ _ _ _ _ (hD.le (S44).le) (dnest_dsr ((S44).at 1 rfl) ((S44).at 2 rfl) (fun a ha => by have := hlW.2 a ha; omega) (by have := hlW.1; omega))).mono (fun v w' h => (⟨h.1.trans (congrArg Value.bool (decide_eq_true (hqW.symm))), h.2⟩ : v = .bool true ∧ Le _ w'))) ?_
      rintro _ w46 ⟨rfl, hl48⟩
      have S47 := S44.step hl48
      refine l_x rfl (x_pick_t rfl rfl) ?_
      refine l_x rfl (x_mv rfl) ?_
      refine l_x rfl (x_mv rfl) ?_
      refine l_x rfl (x_mv rfl) ?_
      refine l_call [] [] [_, _] rfl rfl Tryz.call49 rfl (c_Counting rs vl known _ (hD.le S47.le)) ?_
      rintro v5849 w49 ⟨rqC, hqC, hO5849⟩
      have S50 := S47.join hO5849
      have hfC := count_formed hqC
      have hnC := count_len9 hqC
      refine l_x rfl (x_mv rfl) ?_
      refine l_call [] [] [_, _] rfl rfl Tryz.call46 rfl ((c_SameDeeds _ _ _ _ _ (dnest_dsr ((S50).at 9 rfl) ((S50).at 10 rfl) (big_lens hfC) (by have := hnC; omega)) (dnest_dsr ((S50).at 3 rfl) ((S50).at 4 rfl) (big_lens hfB) (by have := hnB; omega))).mono (fun v w' h => (⟨h.1.trans (congrArg Value.bool (decide_eq_true (hqC.trans (hqB.trans hqA).symm))), h.2⟩ : v = .bool true ∧ Le _ w'))) ?_
      rintro _ w51 ⟨rfl, hl53⟩
      have S52 := S50.step hl53
      refine l_x rfl (x_pick_t rfl rfl) ?_
      refine l_x rfl (x_mv rfl) ?_
      refine l_x rfl (x_mv rfl) ?_
      refine l_x rfl (x_mv rfl) ?_
      refine l_call [] [] [_, _] rfl rfl Tryz.call46 rfl ((c_SameDeeds _ _ _ _ _ (dnest_dsr ((S52).at 7 rfl) ((S52).at 8 rfl) (big_lens hfY) (by have := hnY; omega)) (dnest_dsr ((S52).at 5 rfl) ((S52).at 6 rfl) (big_lens hfN) (by have := hnN; omega))).mono (fun v w' h => (⟨h.1.trans (congrArg Value.bool (decide_eq_true (hqY.trans (hqN.trans hqM).symm))), h.2⟩ : v = .bool true ∧ Le _ w'))) ?_
      rintro _ w54 ⟨rfl, hl56⟩
      have S55 := S52.step hl56
      refine l_x rfl (x_pick_t rfl rfl) ?_
      refine l_x rfl (x_as rfl) ?_
      refine l_nil ?_
      refine r_ret (rs := [.tmp 6]) [_] Tryz.func12 rfl ⟨rfl, trivial⟩ ?_
      exact ⟨rfl, S55.le⟩

end Go.Proofs
