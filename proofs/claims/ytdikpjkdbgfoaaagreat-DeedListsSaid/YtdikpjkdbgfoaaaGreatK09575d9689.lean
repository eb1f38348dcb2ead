/- Texts joined for claims: G6, G7, G8, G9, G10, G11. -/
import Derived.Test.YtdikpjkdbgfoaaaGreatK162766f591
import Derived.Test.YtdikpjkdbgfoaaaGreatKf4cd3ff627
set_option linter.unusedVariables false
set_option linter.unusedSimpArgs false
set_option linter.unusedSectionVars false
namespace Go.Proofs
open Go Go.Vk Go.Vk.Flow

open Go.Vk.Deed

theorem sumI_bd_take9 {l : List Int} (h : ∀ x ∈ l, 0 ≤ x ∧ x ≤ 1000) (hl : l.length ≤ 40) (k : Nat) : 0 ≤ sumI (l.take k) ∧ sumI (l.take k) ≤ 40000 := by
 have := sumI_bd (l := l.take k) (B := 1000) fun x hx => h x (List.mem_of_mem_take hx)
 rw [List.length_take] at this
 omega

set_option maxHeartbeats 4000000 in
theorem c_rwhole (l : List Int) (vl : Value) (t : Int) (hl40 : l.length ≤ 40) (htb : 0 ≤ t ∧ t ≤ 1000000000) (hl0 : ∀ x ∈ l, 0 ≤ x ∧ x ≤ 1000) (hsp : 0 < sumI l) (w : World) (hL : Rd EI w vl l) :
  Cl Tryz.prog 169 #[.int .i64 t, vl] w fun v w' => New w w' (vec EI v (wholeS t l)) ∧ Le w w' := by
 have hbl : (baseS t l).length = l.length := by simp [baseS]
 have hlf := left_bd (total := t) (fun x hx => (hl0 x hx).1) hsp
 obtain ⟨L, hp, hs⟩ := fst_sorted (fun x => (cutS t l).getD x.toNat 0) l.length
 have hLl : L.length = l.length := by rw [hp.length_eq, idxs_len]
 have hs40 := fun k => sumI_bd_take9 hl0 hl40 k
 refine fn_of_run (args := [_, _]) 106 Tryz.func169 rfl rfl rfl fun cs => ?_
 have S := Own.start (X := nob) w
 refine r_seq ?_
 refine r_region ?_
 refine l_a rfl ?_
 refine l_nil ?_
 refine r_seq ?_
 refine r_region ?_
 refine l_a rfl ?_
 refine l_nil ?_
 refine r_seq ?_
 refine r_seq ?_
 refine r_region ?_
 refine l_a rfl ?_
 refine l_nil ?_
 refine r_block ?_
 refine r_loop (G := Nat) (fun i => l.length - i) (fun i => [(0, .int .i64 t), (1, vl), (5, .int .i64 (sumI (l.take i))), (6, .int .i64 i)]) (fun i w' => (i ≤ l.length) ∧ Own nob w w' []) 0 ⟨rfl, rfl, (congrArg (Value.int .i64) (by simp [sumI])), rfl, trivial⟩ ⟨Nat.zero_le _, (S.take 0)⟩ ?_
 rintro i ρ w1 ⟨hi, S1⟩ IH
 refine r_seq ?_
 refine r_seq ?_
 refine r_region ?_
 refine l_m rfl ?_
 refine l_m rfl ?_
 refine l_x rfl (x_len (hL.le S1.le) rfl Tryz.runUnderlying24) ?_
 refine l_x rfl (x_lss rfl rfl) ?_
 refine l_nil ?_
 refine r_ifd rfl (fun hc16 => ?_) (fun hc16 => ?_)
 ·skip
  obtain ⟨a, ha⟩ : ∃ a, l[i]? = some a := ⟨_, List.getElem?_eq_getElem (by omega)⟩
  have hab := hl0 a (List.mem_of_getElem? ha)
  have hm0 := mul_bd htb hab
  have h4 := hs40 i
  have h5 := hs40 (i + 1)
  rw [sumI_take ha] at h5
  refine r_skip ?_
  refine r_seq ?_
  refine r_block ?_
  refine r_region ?_
  refine l_m rfl ?_
  refine l_m rfl ?_
  refine l_m rfl ?_
  refine l_index EI rfl (hL.le S1.le) rfl rfl Tryz.runUnderlying24 Tryz.sizeOf3 (by omega) ha ?_
  intro b1 o2 hat3 row4
  refine l_x rfl (x_load rfl (ld_cell Tryz.isAgg3 (row4 0 _ rfl))) ?_
  refine l_x rfl (x_add rfl rfl (by omega)) ?_
  refine l_a rfl ?_
  refine l_nil ?_
  refine r_inBlock ?_
  refine r_region ?_
  refine l_m rfl ?_
  refine l_x rfl (x_add rfl rfl (by omega)) ?_
  refine l_a rfl ?_
  refine l_nil ?_
  exact IH (i + 1) _ _ (by omega) ⟨rfl, rfl, (congrArg (Value.int .i64) (by rw [sumI_take ha])), rfl, trivial⟩ ⟨by omega, (S1.take 0)⟩
 obtain rfl : i = l.length := by omega
 refine r_exit rfl ?_
 refine r_seq ?_
 refine r_region ?_
 refine l_m rfl ?_
 refine l_x rfl (x_len (hL.le S1.le) rfl Tryz.runUnderlying24) ?_
 refine l_make EI 0 S1 rfl Tryz.runUnderlying24 Tryz.sizeOf3 Tryz.typeInfo3 Tryz.zeroValue3 rfl rfl rfl rfl (Nat.le_refl _) (by unfold maxLen; omega) (by show _ * 8 ≤ _; omega) ?_
 intro v8 w5 hv9 S6 hl7
 refine l_a rfl ?_
 refine l_nil ?_
 refine r_seq ?_
 refine r_region ?_
 refine l_m rfl ?_
 refine l_x rfl (x_len (hL.le S6.le) rfl Tryz.runUnderlying24) ?_
 refine l_make EB false S6 rfl Tryz.runUnderlying106 Tryz.sizeOf4 Tryz.typeInfo4 Tryz.zeroValue4 rfl rfl rfl rfl (Nat.le_refl _) (by unfold maxLen; omega) (by show _ * 1 ≤ _; omega) ?_
 intro v13 w10 hv14 S11 hl12
 refine l_a rfl ?_
 refine l_nil ?_
 refine r_seq ?_
 refine r_region ?_
 refine l_m rfl ?_
 refine l_a rfl ?_
 refine l_nil ?_
 refine r_seq ?_
 refine r_seq ?_
 refine r_region ?_
 refine l_a rfl ?_
 refine l_nil ?_
 refine r_block ?_
 refine r_loop (G := Nat) (fun i => l.length - i) (fun i => [(0, .int .i64 t), (1, vl), (5, .int .i64 (sumI l)), (7, v8), (8, v13), (9, .int .i64 (t - sumI ((baseS t l).take i))), (10, .int .i64 i)]) (fun i w' => (i ≤ l.length) ∧ Own nob w w' [vec EI v8 (pre (baseS t l) 0 i), vec EB v13 (List.replicate l.length false)]) 0 ⟨rfl, rfl, (congrArg (Value.int .i64) (by rw [List.take_length])), rfl, rfl, (congrArg (Value.int .i64) (by rw [List.take_zero, sumI_nil, Int.sub_zero])), rfl, trivial⟩ ⟨Nat.zero_le _, (by rw [pre_zero, hbl]; exact S11.take 2)⟩ ?_
 rintro i ρ w1b ⟨hi, S1b⟩ IHb
 refine r_seq ?_
 refine r_seq ?_
 refine r_region ?_
 refine l_m rfl ?_
 refine l_m rfl ?_
 refine l_x rfl (x_len (hL.le S1b.le) rfl Tryz.runUnderlying24) ?_
 refine l_x rfl (x_lss rfl rfl) ?_
 refine l_nil ?_
 refine r_ifd rfl (fun hc35 => ?_) (fun hc35 => ?_)
 ·skip
  obtain ⟨a, ha⟩ : ∃ a, l[i]? = some a := ⟨_, List.getElem?_eq_getElem (by omega)⟩
  have hab := hl0 a (List.mem_of_getElem? ha)
  have hm0 := mul_bd htb hab
  have hba : (baseS t l)[i]? = some (t * a / sumI l) := by simp [baseS, ha]
  have hdv := div_bd (s := sumI l) hm0 hsp
  have hlb := base_bd htb hl0 hsp i
  refine r_skip ?_
  refine r_seq ?_
  refine r_block ?_
  refine r_seq ?_
  refine r_region ?_
  refine l_m rfl ?_
  refine l_m rfl ?_
  refine l_m rfl ?_
  refine l_m rfl ?_
  refine l_m rfl ?_
  refine l_index EI rfl (hL.le S1b.le) rfl rfl Tryz.runUnderlying24 Tryz.sizeOf3 (by omega) ha ?_
  intro b15 o16 hat17 row18
  refine l_x rfl (x_load rfl (ld_cell Tryz.isAgg3 (row18 0 _ rfl))) ?_
  refine l_x rfl (x_mul rfl rfl (by omega)) ?_
  refine l_m rfl ?_
  refine l_x rfl (x_quo rfl rfl ⟨hm0.1, hsp, by omega⟩) ?_
  refine l_index EI rfl (vec_rd (S1b.at 0 rfl)) rfl rfl Tryz.runUnderlying24 Tryz.sizeOf3 (by omega) (pre_get (by rw [hbl]; omega)) ?_
  intro b19 o20 hat21 row22
  refine l_storevi (f := 0) S1b 0 rfl rfl hat21 rfl rfl Tryz.sizeOf3 (pre_get (by rw [hbl]; omega)) (by decide) rfl ?_
  intro w23 S24 hk25
  refine l_nil ?_
  refine r_region ?_
  refine l_m rfl ?_
  refine l_m rfl ?_
  refine l_m rfl ?_
  refine l_index EI rfl (vec_rd (S24.at 0 rfl)) rfl rfl Tryz.runUnderlying24 Tryz.sizeOf3 (by omega) (by rw [Int.toNat_natCast, pre_step hba]; exact pre_last hba) ?_
  intro b26 o27 hat28 row29
  refine l_x rfl (x_load rfl (ld_cell Tryz.isAgg3 (row29 0 _ rfl))) ?_
  refine l_x rfl (x_sub rfl rfl (by omega)) ?_
  refine l_a rfl ?_
  refine l_nil ?_
  refine r_inBlock ?_
  refine r_region ?_
  refine l_m rfl ?_
  refine l_x rfl (x_add rfl rfl (by omega)) ?_
  refine l_a rfl ?_
  refine l_nil ?_
  exact IHb (i + 1) _ _ (by omega) ⟨rfl, rfl, rfl, rfl, rfl, (congrArg (Value.int .i64) (by rw [sumI_take hba]; omega)), rfl, trivial⟩ ⟨by omega, (by rw [← pre_step hba]; exact S24.take 2)⟩
 obtain rfl : i = l.length := by omega
 refine r_exit rfl ?_
 refine r_seq ?_
 refine r_block ?_
 refine r_loop (G := Nat) (fun q => l.length - q) (fun q => [(0, .int .i64 t), (1, vl), (5, .int .i64 (sumI l)), (7, v8), (8, v13), (9, .int .i64 (t - sumI (baseS t l) - q))]) (fun q w' => ((q : Int) ≤ t - sumI (baseS t l)) ∧ Own nob w w' [vec EI v8 (bumps (baseS t l) (L.take q)), vec EB v13 (bms (L.take q) l.length)]) 0 ⟨rfl, rfl, rfl, rfl, rfl, (congrArg (Value.int .i64) (by rw [← hbl, List.take_length]; simp)), trivial⟩ ⟨hlf.1, (by rw [List.take_zero, bms_nil, show bumps (baseS t l) [] = baseS t l from rfl]; have hS := S1b; rw [← hbl, pre_full, hbl] at hS; exact hS.take 2)⟩ ?_
 rintro q ρ w1c ⟨hq, S1c⟩ IHc
 refine r_seq ?_
 refine r_seq ?_
 refine r_region ?_
 refine l_m rfl ?_
 refine l_x rfl (x_gtr rfl rfl) ?_
 refine l_nil ?_
 refine r_ifd rfl (fun hc56 => ?_) (fun hc56 => ?_)
 ·skip
  have hqn : q < l.length := by omega
  refine r_skip ?_
  refine r_block ?_
  refine r_seq ?_
  refine r_region ?_
  refine l_a rfl ?_
  refine l_nil ?_
  refine r_seq ?_
  refine r_seq ?_
  refine r_region ?_
  refine l_a rfl ?_
  refine l_nil ?_
  refine r_block ?_
  refine r_loop (G := Nat × Int) (fun ⟨i, bst⟩ => l.length - i) (fun ⟨i, bst⟩ => [(0, .int .i64 t), (1, vl), (5, .int .i64 (sumI l)), (7, v8), (8, v13), (9, .int .i64 (t - sumI (baseS t l) - q)), (11, .int .i64 bst), (12, .int .i64 i)]) (fun ⟨i, bst⟩ w' => (i ≤ l.length) ∧ (Bst (fun x => (cutS t l).getD x.toNat 0) (L.take q) i bst) ∧ Own nob w w' [vec EI v8 (bumps (baseS t l) (L.take q)), vec EB v13 (bms (L.take q) l.length)]) (0, -1) ⟨rfl, rfl, rfl, rfl, rfl, rfl, rfl, rfl, trivial⟩ ⟨Nat.zero_le _, Bst.start, (S1c.take 2)⟩ ?_
  rintro ⟨i, bst⟩ ρ w1d ⟨hi, hbst, S1d⟩ IHd
  refine r_seq ?_
  refine r_seq ?_
  refine r_region ?_
  refine l_m rfl ?_
  refine l_m rfl ?_
  refine l_x rfl (x_len (hL.le S1d.le) rfl Tryz.runUnderlying24) ?_
  refine l_x rfl (x_lss rfl rfl) ?_
  refine l_nil ?_
  refine r_ifd rfl (fun hc60 => ?_) (fun hc60 => ?_)
  ·skip
   obtain ⟨a, ha⟩ : ∃ a, l[i]? = some a := ⟨_, List.getElem?_eq_getElem (by omega)⟩
   have hab := hl0 a (List.mem_of_getElem? ha)
   have hm0 := mul_bd htb hab
   refine r_skip ?_
   refine r_seq ?_
   refine r_block ?_
   refine r_seq ?_
   refine r_drawR 28 Tryz.mixed (by kernel_rfl) ?_
   refine w_x rfl (fun w1 h1 => x_mv rfl) ?_
   refine w_x rfl (fun w1 h1 => x_mv rfl) ?_
   refine w_index EB rfl (vec_rd (S1d.at 1 rfl)) rfl rfl Tryz.runUnderlying106 Tryz.sizeOf4 (by omega) (bms_get (by omega)) ?_
   intro b30 o31 hat32 row33
   refine w_x rfl (fun w1 h1 => x_load rfl (ld_cell Tryz.isAgg4 ((row33.le h1) 0 _ rfl))) ?_
   refine w_x rfl (fun w1 h1 => x_not rfl) ?_
   refine w_x rfl (fun w1 h1 => x_mv rfl) ?_
   refine w_split (d := 68) rfl (fun hg68 => ?_) (fun hg68 => ?_)
   ·skip
    refine w_x rfl (fun w1 h1 => x_mv rfl) ?_
    refine w_x rfl (fun w1 h1 => x_lss rfl rfl) ?_
    refine w_x rfl (fun w1 h1 => x_mv rfl) ?_
    refine w_splitd (d := 71) rfl (fun hg71 => ?_) (fun hg71 => ?_)
    ·skip
     refine w_pass rfl ?_
     refine w_pass rfl ?_
     refine w_pass rfl ?_
     refine w_pass rfl ?_
     refine w_pass rfl ?_
     refine w_pass rfl ?_
     refine w_pass rfl ?_
     refine w_pass rfl ?_
     refine w_pass rfl ?_
     refine w_pass rfl ?_
     refine w_pass rfl ?_
     refine w_pass rfl ?_
     refine w_pass rfl ?_
     refine w_pass rfl ?_
     refine w_pass rfl ?_
     refine w_pass rfl ?_
     refine w_pass rfl ?_
     refine w_x rfl (fun w1 h1 => x_pick_t rfl rfl) ?_
     refine w_x rfl (fun w1 h1 => x_pick_t rfl rfl) ?_
     refine w_nil ?_
     intro w34 hl35
     have S36 := S1d.step hl35
     refine l_nil ?_
     refine r_true rfl ?_
     refine r_region ?_
     refine l_m rfl ?_
     refine l_a rfl ?_
     refine l_nil ?_
     refine r_inBlock ?_
     refine r_region ?_
     refine l_m rfl ?_
     refine l_x rfl (x_add rfl rfl (by omega)) ?_
     refine l_a rfl ?_
     refine l_nil ?_
     exact IHd (i + 1, (i : Int)) _ _ (by dsimp only; omega) ⟨rfl, rfl, rfl, rfl, rfl, rfl, rfl, rfl, trivial⟩ ⟨by omega, hbst.first (by simpa using hg68) hg71, (S36.take 2)⟩
    have hbr : 0 ≤ bst ∧ bst < i := by rcases hbst with h | h <;> omega
    obtain ⟨z, hz⟩ : ∃ a, l[bst.toNat]? = some a := ⟨_, List.getElem?_eq_getElem (by omega)⟩
    have hmz := mul_bd htb (hl0 z (List.mem_of_getElem? hz))
    refine w_x rfl (fun w1 h1 => x_mv rfl) ?_
    refine w_x rfl (fun w1 h1 => x_mv rfl) ?_
    refine w_x rfl (fun w1 h1 => x_mv rfl) ?_
    refine w_index EI rfl (hL.le S1d.le) rfl rfl Tryz.runUnderlying24 Tryz.sizeOf3 (by omega) ha ?_
    intro b37 o38 hat39 row40
    refine w_x rfl (fun w1 h1 => x_load rfl (ld_cell Tryz.isAgg3 ((row40.le h1) 0 _ rfl))) ?_
    refine w_x rfl (fun w1 h1 => x_mul rfl rfl (by omega)) ?_
    refine w_x rfl (fun w1 h1 => x_mv rfl) ?_
    refine w_x rfl (fun w1 h1 => x_rem rfl rfl ⟨hm0.1, hsp⟩) ?_
    refine w_x rfl (fun w1 h1 => x_mv rfl) ?_
    refine w_x rfl (fun w1 h1 => x_mv rfl) ?_
    refine w_x rfl (fun w1 h1 => x_mv rfl) ?_
    refine w_index EI rfl (hL.le S1d.le) rfl rfl Tryz.runUnderlying24 Tryz.sizeOf3 (by omega) hz ?_
    intro b41 o42 hat43 row44
    refine w_x rfl (fun w1 h1 => x_load rfl (ld_cell Tryz.isAgg3 ((row44.le h1) 0 _ rfl))) ?_
    refine w_x rfl (fun w1 h1 => x_mul rfl rfl (by omega)) ?_
    refine w_x rfl (fun w1 h1 => x_mv rfl) ?_
    refine w_x rfl (fun w1 h1 => x_rem rfl rfl ⟨hmz.1, hsp⟩) ?_
    refine w_x rfl (fun w1 h1 => x_gtr rfl rfl) ?_
    refine w_x rfl (fun w1 h1 => x_pick_f rfl rfl) ?_
    refine w_x rfl (fun w1 h1 => x_pick_t rfl rfl) ?_
    refine w_nil ?_
    intro w45 hl46
    have S47 := S1d.step hl46
    refine l_nil ?_
    refine r_ifd rfl (fun hc90 => ?_) (fun hc90 => ?_)
    ·skip
     refine r_region ?_
     refine l_m rfl ?_
     refine l_a rfl ?_
     refine l_nil ?_
     refine r_inBlock ?_
     refine r_region ?_
     refine l_m rfl ?_
     refine l_x rfl (x_add rfl rfl (by omega)) ?_
     refine l_a rfl ?_
     refine l_nil ?_
     exact IHd (i + 1, (i : Int)) _ _ (by dsimp only; omega) ⟨rfl, rfl, rfl, rfl, rfl, rfl, rfl, rfl, trivial⟩ ⟨by omega, hbst.more (by simpa using hg68) hg71 (by rw [Int.toNat_natCast, cut_at ha, cut_at hz]; exact hc90), (S47.take 2)⟩
    refine r_skip ?_
    refine r_inBlock ?_
    refine r_region ?_
    refine l_m rfl ?_
    refine l_x rfl (x_add rfl rfl (by omega)) ?_
    refine l_a rfl ?_
    refine l_nil ?_
    exact IHd (i + 1, bst) _ _ (by dsimp only; omega) ⟨rfl, rfl, rfl, rfl, rfl, rfl, rfl, rfl, trivial⟩ ⟨by omega, hbst.less (by simpa using hg68) hg71 (by rw [Int.toNat_natCast, cut_at ha, cut_at hz]; exact hc90), (S47.take 2)⟩
   refine w_pass rfl ?_
   refine w_pass rfl ?_
   refine w_pass rfl ?_
   refine w_pass rfl ?_
   refine w_pass rfl ?_
   refine w_pass rfl ?_
   refine w_pass rfl ?_
   refine w_pass rfl ?_
   refine w_pass rfl ?_
   refine w_pass rfl ?_
   refine w_pass rfl ?_
   refine w_pass rfl ?_
   refine w_pass rfl ?_
   refine w_pass rfl ?_
   refine w_pass rfl ?_
   refine w_pass rfl ?_
   refine w_pass rfl ?_
   refine w_pass rfl ?_
   refine w_pass rfl ?_
   refine w_pass rfl ?_
   refine w_pass rfl ?_
   refine w_x rfl (fun w1 h1 => x_pick_f rfl rfl) ?_
   refine w_nil ?_
   intro w48 hl49
   have S50 := S1d.step hl49
   refine l_nil ?_
   refine r_false rfl ?_
   refine r_skip ?_
   refine r_inBlock ?_
   refine r_region ?_
   refine l_m rfl ?_
   refine l_x rfl (x_add rfl rfl (by omega)) ?_
   refine l_a rfl ?_
   refine l_nil ?_
   exact IHd (i + 1, bst) _ _ (by dsimp only; omega) ⟨rfl, rfl, rfl, rfl, rfl, rfl, rfl, rfl, trivial⟩ ⟨by omega, hbst.skip (by simpa using hg68), (S50.take 2)⟩
  obtain rfl : i = l.length := by omega
  obtain ⟨hLq, hb0, hbn, hbm⟩ := hbst.found hp hs hqn
  have hzb := bump_bd2 htb hl0 hsp hp hs q bst.toNat
  have htk := take_snoc hLq
  refine r_exit rfl ?_
  refine r_seq ?_
  refine r_region ?_
  refine l_m rfl ?_
  refine l_m rfl ?_
  refine l_index EB rfl (vec_rd (S1d.at 1 rfl)) rfl rfl Tryz.runUnderlying106 Tryz.sizeOf4 (by omega) (bms_get (by omega)) ?_
  intro b51 o52 hat53 row54
  refine l_storevb (f := 0) S1d 1 rfl rfl hat53 rfl rfl Tryz.sizeOf4 (bms_get (by omega)) (by decide) rfl ?_
  intro w55 S56 hk57
  refine l_nil ?_
  refine r_seq ?_
  refine r_region ?_
  refine l_m rfl ?_
  refine l_m rfl ?_
  refine l_m rfl ?_
  refine l_m rfl ?_
  refine l_index EI rfl (vec_rd (S56.at 0 rfl)) rfl rfl Tryz.runUnderlying24 Tryz.sizeOf3 (by omega) (bump_get (by rw [hbl]; omega)) ?_
  intro b58 o59 hat60 row61
  refine l_x rfl (x_load rfl (ld_cell Tryz.isAgg3 (row61 0 _ rfl))) ?_
  refine l_x rfl (x_add rfl rfl (by omega)) ?_
  refine l_index EI rfl (vec_rd (S56.at 0 rfl)) rfl rfl Tryz.runUnderlying24 Tryz.sizeOf3 (by omega) (bump_get (by rw [hbl]; omega)) ?_
  intro b62 o63 hat64 row65
  refine l_storevi (f := 0) S56 0 rfl rfl hat64 rfl rfl Tryz.sizeOf3 (bump_get (by rw [hbl]; omega)) (by decide) rfl ?_
  intro w66 S67 hk68
  refine l_nil ?_
  refine r_region ?_
  refine l_m rfl ?_
  refine l_x rfl (x_sub rfl rfl (by omega)) ?_
  refine l_a rfl ?_
  refine l_nil ?_
  refine r_inBlock ?_
  exact IHc (q + 1) _ _ (by omega) ⟨rfl, rfl, rfl, rfl, rfl, (congrArg (Value.int .i64) (by omega)), trivial⟩ ⟨by omega, (by rw [htk, bumps_snoc, ← bms_set hb0]; exact S67.take 2)⟩
 obtain rfl : q = (t - sumI (baseS t l)).toNat := by omega
 have hwo := whole_of (c := fun x => (cutS t l).getD x.toNat 0) (fun j => rfl) hp hs hlf.1
 refine r_exit rfl ?_
 refine r_seq ?_
 refine r_region ?_
 refine l_m rfl ?_
 refine l_a rfl ?_
 refine l_nil ?_
 refine r_ret (rs := [.tmp 4]) [_] Tryz.func169 rfl ⟨rfl, trivial⟩ ?_
 exact ⟨by rw [← hwo]; exact S1c.new 0 rfl, S1c.le⟩

end Go.Proofs

namespace Go.Proofs
open Go Go.Vk Go.Vk.Flow

open Go.Vk.Deed
theorem zip_get {α β : Type} {a : List α} {b : List β} {i : Nat} {x : α} {y : β} (h1 : a[i]? = some x) (h2 : b[i]? = some y) : (a.zip b)[i]? = some (x, y) := List.getElem?_zip_eq_some.2 ⟨h1, h2⟩
theorem _root_.Go.Vk.Own.stMono {t : STys} {b m m' : Nat} {n : SNm} {s : St} {X : Nat → Prop} {w0 w : World} {A : List Rsc} (S : Own X w0 w (A ++ [stS t b n m s])) (h : m ≤ m') : Own X w0 w (A ++ [stS t b n m' s]) :=
 let ⟨_, h1, S1⟩ := S.stOpen
 S1.stShut (h1.mono h)
theorem prs_step {r : RS} {i : Nat} {p : Pl} {e : Bool} {f : Pl × Bool → Bool} (h : ∀ q ∈ (r.ps.zip r.es).take i, f q = false) (hp : r.ps[i]? = some p) (he : r.es[i]? = some e) (hn : f (p, e) = false) : ∀ q ∈ (r.ps.zip r.es).take (i + 1), f q = false := by
 intro q hq
 rw [List.take_add_one, zip_get hp he] at hq
 rcases List.mem_append.1 hq with g | g
 ·exact h q g
 simp at g; subst g; exact hn

set_option maxHeartbeats 2000000 in
theorem c_rpledge (b : Nat) (n : SNm) (m : Nat) (s : St) (r : RS) (hm : m ≤ 400) (od : Int) (w : World) (hR : StRO TS b n m s r w) :
  Cl Tryz.prog 171 #[.pointer (some ⟨b, 0, none⟩), .int .i64 od] w fun v w' => v = .int .i64 (idx (PP od) (r.ps.zip r.es)) ∧ Le w w' := by
 have hO := hR.ok
 have hpl := hO.pl
 have hel := hO.e
 refine fn_of_run (args := [_, _]) 36 Tryz.func171 rfl rfl rfl fun cs => ?_
 have S := Own.start (X := nob) w
 refine r_seq ?_
 refine r_region ?_
 refine l_a rfl ?_
 refine l_nil ?_
 refine r_seq ?_
 refine r_seq ?_
 refine r_region ?_
 refine l_a rfl ?_
 refine l_nil ?_
 refine r_block ?_
 refine r_loop (G := Nat) (fun i => r.ps.length - i) (fun i => [(0, .pointer (some ⟨b, 0, none⟩)), (1, .int .i64 od), (5, .int .i64 i)]) (fun i w' => (i ≤ r.ps.length) ∧ (∀ q ∈ (r.ps.zip r.es).take i, PP od q = false) ∧ Own nob w w' []) 0 ⟨rfl, rfl, rfl, trivial⟩ ⟨Nat.zero_le _, by simp, (S.take 0)⟩ ?_
 rintro i ρ w1 ⟨hi, hno, S1⟩ IH
 refine r_seq ?_
 refine r_seq ?_
 refine r_region ?_
 refine l_m rfl ?_
 refine l_m rfl ?_
 refine l_x rfl (x_nilCheck rfl) ?_
 refine l_x rfl (x_fieldAddr rfl Tryz.runUnderlying108 rfl Tryz.sizeOf81 (by decide)) ?_
 refine l_x rfl (x_load rfl (ld_blk (hR.blk.keep S1.le id) Tryz.isAgg81 stP_get)) ?_
 refine l_x rfl (x_len (hR.pm.le S1.le) rfl Tryz.runUnderlying81) ?_
 refine l_x rfl (x_lss rfl rfl) ?_
 refine l_nil ?_
 refine r_ifd rfl (fun hc12 => ?_) (fun hc12 => ?_)
 ·skip
  obtain ⟨p, hp⟩ : ∃ x, r.ps[i]? = some x := ⟨_, List.getElem?_eq_getElem (by omega)⟩
  obtain ⟨e, he⟩ : ∃ x, r.es[i]? = some x := ⟨_, List.getElem?_eq_getElem (by omega)⟩
  refine r_skip ?_
  refine r_seq ?_
  refine r_block ?_
  refine r_seq ?_
  refine r_region ?_
  refine l_m rfl ?_
  refine l_x rfl (x_nilCheck rfl) ?_
  refine l_x rfl (x_fieldAddr rfl Tryz.runUnderlying108 rfl Tryz.sizeOf81 (by decide)) ?_
  refine l_x rfl (x_load rfl (ld_blk (hR.blk.keep S1.le id) Tryz.isAgg81 stP_get)) ?_
  refine l_m rfl ?_
  refine l_index EPL rfl (hR.pm.le S1.le) rfl rfl Tryz.runUnderlying81 Tryz.sizeOf86 (by omega) hp ?_
  intro b1 o2 hat3 row4
  refine l_x rfl (x_fieldAddr rfl Tryz.runUnderlying86 rfl Tryz.sizeOf3 (by decide)) ?_
  refine l_x rfl (x_load rfl (ld_cell Tryz.isAgg3 (row4 0 _ rfl))) ?_
  refine l_m rfl ?_
  refine l_x rfl (x_eql rfl rfl) ?_
  refine l_m rfl ?_
  refine l_splitd (d := 25) rfl (fun hg25 => ?_) (fun hg25 => ?_)
  ·skip
   refine l_m rfl ?_
   refine l_x rfl (x_nilCheck rfl) ?_
   refine l_x rfl (x_fieldAddr rfl Tryz.runUnderlying108 rfl Tryz.sizeOf106 (by decide)) ?_
   refine l_x rfl (x_load rfl (ld_blk (hR.blk.keep S1.le id) Tryz.isAgg106 stE_get)) ?_
   refine l_m rfl ?_
   refine l_index EB rfl (hR.em.le S1.le) rfl rfl Tryz.runUnderlying106 Tryz.sizeOf4 (by omega) he ?_
   intro b5 o6 hat7 row8
   refine l_x rfl (x_load rfl (ld_cell Tryz.isAgg4 (row8 0 _ rfl))) ?_
   refine l_x rfl (x_not rfl) ?_
   refine l_x rfl (x_pick_t rfl rfl) ?_
   refine l_nil ?_
   refine r_if rfl (fun hc34 => ?_) (fun hc34 => ?_)
   ·skip
    refine r_seq ?_
    refine r_region ?_
    refine l_m rfl ?_
    refine l_a rfl ?_
    refine l_nil ?_
    refine r_ret (rs := [.tmp 4]) [_] Tryz.func171 rfl ⟨rfl, trivial⟩ ?_
    exact ⟨congrArg (Value.int .i64) (idx_at (zip_get hp he) (decide_eq_true ⟨hg25, by simpa using hc34⟩) hno).symm, S1.le⟩
   refine r_skip ?_
   refine r_inBlock ?_
   refine r_region ?_
   refine l_m rfl ?_
   refine l_x rfl (x_add rfl rfl (by omega)) ?_
   refine l_a rfl ?_
   refine l_nil ?_
   exact IH (i + 1) _ _ (by omega) ⟨rfl, rfl, rfl, trivial⟩ ⟨by omega, prs_step hno hp he (decide_eq_false (by rintro ⟨_, h⟩; simp only at h; rw [h] at hc34; simp at hc34)), (S1.take 0)⟩
  refine l_pass rfl ?_
  refine l_pass rfl ?_
  refine l_pass rfl ?_
  refine l_pass rfl ?_
  refine l_pass rfl ?_
  refine l_pass rfl ?_
  refine l_pass rfl ?_
  refine l_pass rfl ?_
  refine l_x rfl (x_pick_f rfl rfl) ?_
  refine l_nil ?_
  refine r_false rfl ?_
  refine r_skip ?_
  refine r_inBlock ?_
  refine r_region ?_
  refine l_m rfl ?_
  refine l_x rfl (x_add rfl rfl (by omega)) ?_
  refine l_a rfl ?_
  refine l_nil ?_
  exact IH (i + 1) _ _ (by omega) ⟨rfl, rfl, rfl, trivial⟩ ⟨by omega, prs_step hno hp he (decide_eq_false (fun h => hg25 h.1)), (S1.take 0)⟩
 obtain rfl : i = r.ps.length := by omega
 rw [List.take_of_length_le (by rw [List.length_zip]; omega)] at hno
 refine r_exit rfl ?_
 refine r_seq ?_
 refine r_region ?_
 refine l_a rfl ?_
 refine l_nil ?_
 refine r_ret (rs := [.tmp 4]) [_] Tryz.func171 rfl ⟨rfl, trivial⟩ ?_
 exact ⟨congrArg (Value.int .i64) (idx_none hno).symm, S1.le⟩

set_option maxHeartbeats 4000000 in
theorem c_rdo1 (b : Nat) (n : SNm) (m : Nat) (s : St) (hm : m ≤ 400) (l : List D) (a : Rw) (hf : formed a.1 = true) (hI : StI s l) (he : enters l ≤ 1000000000) (hl : l.length ≤ 400) (hN : NN s a.1.day) (hk : a.1.kind = 1) (w : World) (S0 : Own (stF TS b n) w w [stS TS b n m s]) :
  Cl Tryz.prog 136 #[.pointer (some ⟨b, 0, none⟩), .agg (encD a).toArray] w fun v w' => ∃ n' s', (do1 s a.1).getD s = s' ∧ v = .bool (do1 s a.1).isSome ∧ Own (stF TS b n) w w' [stS TS b n' (m + 1) s'] := by
 have hB := hI.stb he hl
 have hfm := formed_id hf
 have hq := formed_ent hf hk
 refine fn_of_run (args := [_, _]) 207 Tryz.func136 rfl rfl rfl fun cs => ?_
 have S := S0
 refine r_seq ?_
 refine r_region ?_
 refine l_box S rfl rfl ?_
 intro b4 w1 S2 hl3
 refine l_a rfl ?_
 refine l_nil ?_
 refine r_seq ?_
 refine r_seq ?_
 refine r_region ?_
 refine l_x rfl (x_fieldAddr rfl Tryz.runUnderlying26 rfl Tryz.sizeOf5 (by decide)) ?_
 refine l_x rfl (x_load rfl (ld_blk (S2.blk 1 rfl) Tryz.isAgg5 rfl)) ?_
 refine l_nil ?_
 refine r_block ?_
 refine r_seq ?_
 refine r_region ?_
 refine l_x rfl (x_eql rfl rfl) ?_
 refine l_a rfl ?_
 refine l_nil ?_
 refine r_ifd rfl (fun hc11 => ?_) (fun hc11 => ?_)
 ·skip
  refine r_seq ?_
  obtain ⟨r, hO, So⟩ := Own.stOpen (A := [_]) (S2.pick (L' := [_, _]) [1, 0] (by decide) rfl)
  have hh := hO.h a.1.to.toNat (by omega)
  have hff := hO.f a.1.to.toNat a.1.id.toNat (by omega) (by omega)
  have hb1 := hB.hb a.1.to.toNat
  have hb2 := hB.sb a.1.to.toNat a.1.id.toNat
  rw [← hh] at hb1
  rw [← hff] at hb2
  refine r_drawR 16 Tryz.mixed (by kernel_rfl) ?_
  refine w_x rfl (fun w1 h1 => x_mv rfl) ?_
  refine w_x rfl (fun w1 h1 => x_fieldAddr rfl Tryz.runUnderlying26 rfl Tryz.sizeOf3 (by decide)) ?_
  refine w_x rfl (fun w1 h1 => x_load rfl (ld_blk ((So.step h1).blk 0 rfl) Tryz.isAgg3 rfl)) ?_
  refine w_x rfl (fun w1 h1 => x_mv rfl) ?_
  refine w_x rfl (fun w1 h1 => x_fieldAddr rfl Tryz.runUnderlying26 rfl Tryz.sizeOf3 (by decide)) ?_
  refine w_x rfl (fun w1 h1 => x_load rfl (ld_blk ((So.step h1).blk 0 rfl) Tryz.isAgg3 rfl)) ?_
  refine w_x rfl (fun w1 h1 => x_nilCheck rfl) ?_
  refine w_x rfl (fun w1 h1 => x_fieldAddr rfl Tryz.runUnderlying108 rfl Tryz.sizeOf104 (by decide)) ?_
  refine w_x rfl (fun w1 h1 => x_indexAddr_array rfl rfl Tryz.runUnderlying104 Tryz.sizeOf3 (by omega)) ?_
  refine w_x rfl (fun w1 h1 => x_load rfl (ld_blk ((So.step h1).blk 1 rfl) Tryz.isAgg3 (stH_get (by omega)))) ?_
  refine w_x rfl (fun w1 h1 => x_fieldAddr rfl Tryz.runUnderlying26 rfl Tryz.sizeOf3 (by decide)) ?_
  refine w_x rfl (fun w1 h1 => x_load rfl (ld_blk ((So.step h1).blk 0 rfl) Tryz.isAgg3 rfl)) ?_
  refine w_x rfl (fun w1 h1 => x_add rfl rfl (by omega)) ?_
  refine w_x rfl (fun w1 h1 => x_nilCheck rfl) ?_
  refine w_x rfl (fun w1 h1 => x_fieldAddr rfl Tryz.runUnderlying108 rfl Tryz.sizeOf104 (by decide)) ?_
  refine w_x rfl (fun w1 h1 => x_indexAddr_array rfl rfl Tryz.runUnderlying104 Tryz.sizeOf3 (by omega)) ?_
  refine w_nil ?_
  intro w5 hl6
  have S7 := So.step hl6
  refine l_storeq S7 1 rfl rfl rfl rfl rfl Tryz.sizeOf3 (stH_lt (by omega)) (stH_set (by omega)) ?_
  intro w8 S9 hk10
  refine l_nil ?_
  refine r_seq ?_
  refine r_drawR 22 Tryz.mixed (by kernel_rfl) ?_
  refine w_x rfl (fun w1 h1 => x_mv rfl) ?_
  refine w_x rfl (fun w1 h1 => x_fieldAddr rfl Tryz.runUnderlying26 rfl Tryz.sizeOf3 (by decide)) ?_
  refine w_x rfl (fun w1 h1 => x_load rfl (ld_blk ((S9.step h1).blk 0 rfl) Tryz.isAgg3 rfl)) ?_
  refine w_x rfl (fun w1 h1 => x_fieldAddr rfl Tryz.runUnderlying26 rfl Tryz.sizeOf3 (by decide)) ?_
  refine w_x rfl (fun w1 h1 => x_load rfl (ld_blk ((S9.step h1).blk 0 rfl) Tryz.isAgg3 rfl)) ?_
  refine w_x rfl (fun w1 h1 => x_mv rfl) ?_
  refine w_x rfl (fun w1 h1 => x_fieldAddr rfl Tryz.runUnderlying26 rfl Tryz.sizeOf3 (by decide)) ?_
  refine w_x rfl (fun w1 h1 => x_load rfl (ld_blk ((S9.step h1).blk 0 rfl) Tryz.isAgg3 rfl)) ?_
  refine w_x rfl (fun w1 h1 => x_fieldAddr rfl Tryz.runUnderlying26 rfl Tryz.sizeOf3 (by decide)) ?_
  refine w_x rfl (fun w1 h1 => x_load rfl (ld_blk ((S9.step h1).blk 0 rfl) Tryz.isAgg3 rfl)) ?_
  refine w_x rfl (fun w1 h1 => x_nilCheck rfl) ?_
  refine w_x rfl (fun w1 h1 => x_fieldAddr rfl Tryz.runUnderlying108 rfl Tryz.sizeOf105 (by decide)) ?_
  refine w_x rfl (fun w1 h1 => x_indexAddr_array rfl rfl Tryz.runUnderlying105 Tryz.sizeOf103 (by omega)) ?_
  refine w_x rfl (fun w1 h1 => x_indexAddr_array rfl rfl Tryz.runUnderlying103 Tryz.sizeOf3 (by omega)) ?_
  refine w_x rfl (fun w1 h1 => x_load rfl (ld_blk ((S9.step h1).blk 1 rfl) Tryz.isAgg3 (stF_get (by omega) (by omega)))) ?_
  refine w_x rfl (fun w1 h1 => x_fieldAddr rfl Tryz.runUnderlying26 rfl Tryz.sizeOf3 (by decide)) ?_
  refine w_x rfl (fun w1 h1 => x_load rfl (ld_blk ((S9.step h1).blk 0 rfl) Tryz.isAgg3 rfl)) ?_
  refine w_x rfl (fun w1 h1 => x_add rfl rfl (by omega)) ?_
  refine w_x rfl (fun w1 h1 => x_nilCheck rfl) ?_
  refine w_x rfl (fun w1 h1 => x_fieldAddr rfl Tryz.runUnderlying108 rfl Tryz.sizeOf105 (by decide)) ?_
  refine w_x rfl (fun w1 h1 => x_indexAddr_array rfl rfl Tryz.runUnderlying105 Tryz.sizeOf103 (by omega)) ?_
  refine w_x rfl (fun w1 h1 => x_indexAddr_array rfl rfl Tryz.runUnderlying103 Tryz.sizeOf3 (by omega)) ?_
  refine w_nil ?_
  intro w11 hl12
  have S13 := S9.step hl12
  refine l_storeq S13 1 rfl rfl rfl rfl rfl Tryz.sizeOf3 (stF_lt (by omega) (by omega)) (stF_set (by omega) (by omega)) ?_
  intro w14 S15 hk16
  refine l_nil ?_
  refine r_seq ?_
  refine r_region ?_
  refine l_a rfl ?_
  refine l_nil ?_
  refine r_ret (rs := [.tmp 4]) [_] Tryz.func136 rfl ⟨rfl, trivial⟩ ?_
  exact ⟨n, _, by rw [do_enter hk], by rw [do_enter hk]; rfl, Own.stShut (A := []) (S15.pick (L' := [_, _, _, _, _]) [1, 2, 3, 4, 5] (by decide) rfl) (by have h9 := hO.add (o := a.1.to.toNat) (i := a.1.id.toNat) (v := a.1.parts) (by omega); rw [Int.toNat_of_nonneg (by omega), Int.toNat_of_nonneg (by omega)] at h9; exact h9.mono (by omega))⟩
 omega

end Go.Proofs

namespace Go.Proofs
open Go Go.Vk Go.Vk.Flow

open Go.Vk.Deed

set_option maxHeartbeats 4000000 in
theorem c_rdo2 (b : Nat) (n : SNm) (m : Nat) (s : St) (hm : m ≤ 400) (l : List D) (a : Rw) (hf : formed a.1 = true) (hI : StI s l) (he : enters l ≤ 1000000000) (hl : l.length ≤ 400) (hN : NN s a.1.day) (hk : a.1.kind = 2) (w : World) (S0 : Own (stF TS b n) w w [stS TS b n m s]) :
  Cl Tryz.prog 136 #[.pointer (some ⟨b, 0, none⟩), .agg (encD a).toArray] w fun v w' => ∃ n' s', (do1 s a.1).getD s = s' ∧ v = .bool (do1 s a.1).isSome ∧ Own (stF TS b n) w w' [stS TS b n' (m + 1) s'] := by
 have hB := hI.stb he hl
 have hfm := formed_id hf
 have hq := formed_two hf (by omega)
 have hfh := free_holds9 hB (o := a.1.frm) (day := a.1.day)
 have hfl := free_le1 hB (o := a.1.frm) (day := a.1.day)
 refine fn_of_run (args := [_, _]) 207 Tryz.func136 rfl rfl rfl fun cs => ?_
 have S := S0
 refine r_seq ?_
 refine r_region ?_
 refine l_box S rfl rfl ?_
 intro b4 w1 S2 hl3
 refine l_a rfl ?_
 refine l_nil ?_
 refine r_seq ?_
 refine r_seq ?_
 refine r_region ?_
 refine l_x rfl (x_fieldAddr rfl Tryz.runUnderlying26 rfl Tryz.sizeOf5 (by decide)) ?_
 refine l_x rfl (x_load rfl (ld_blk (S2.blk 1 rfl) Tryz.isAgg5 rfl)) ?_
 refine l_nil ?_
 refine r_block ?_
 refine r_seq ?_
 refine r_region ?_
 refine l_x rfl (x_eql rfl rfl) ?_
 refine l_a rfl ?_
 refine l_nil ?_
 refine r_ifd rfl (fun hc11 => ?_) (fun hc11 => ?_)
 ·omega
 refine r_seq ?_
 refine r_region ?_
 refine l_x rfl (x_eql rfl rfl) ?_
 refine l_a rfl ?_
 refine l_nil ?_
 refine r_ifd rfl (fun hc51 => ?_) (fun hc51 => ?_)
 ·omega
 refine r_seq ?_
 refine r_seq ?_
 refine r_region ?_
 refine l_x rfl (x_eql rfl rfl) ?_
 refine l_a rfl ?_
 refine l_nil ?_
 refine r_ifd rfl (fun hc85 => ?_) (fun hc85 => ?_)
 ·omega
 refine r_region ?_
 refine l_x rfl (x_eql rfl rfl) ?_
 refine l_a rfl ?_
 refine l_nil ?_
 refine r_ifd rfl (fun hc85 => ?_) (fun hc85 => ?_)
 ·omega
 refine r_skip ?_
 refine r_inBlock ?_
 refine r_seq ?_
 refine r_seq ?_
 refine r_drawR 9 Tryz.mixed (by kernel_rfl) ?_
 refine w_x rfl (fun w1 h1 => x_mv rfl) ?_
 refine w_x rfl (fun w1 h1 => x_fieldAddr rfl Tryz.runUnderlying26 rfl Tryz.sizeOf3 (by decide)) ?_
 refine w_x rfl (fun w1 h1 => x_load rfl (ld_blk ((S2.step h1).blk 1 rfl) Tryz.isAgg3 rfl)) ?_
 refine w_x rfl (fun w1 h1 => x_fieldAddr rfl Tryz.runUnderlying26 rfl Tryz.sizeOf3 (by decide)) ?_
 refine w_x rfl (fun w1 h1 => x_load rfl (ld_blk ((S2.step h1).blk 1 rfl) Tryz.isAgg3 rfl)) ?_
 refine wd_call [] [] [_, _, _] rfl rfl Tryz.call168 rfl (fun w1 h1 => c_rfree b n m s hm a.1.frm a.1.day (by omega) hB hN.ld _ ((S2.step h1).ro 0 rfl)) ?_
 refine w_x rfl (fun w1 h1 => x_fieldAddr rfl Tryz.runUnderlying26 rfl Tryz.sizeOf3 (by decide)) ?_
 refine w_x rfl (fun w1 h1 => x_load rfl (ld_blk ((S2.step h1).blk 1 rfl) Tryz.isAgg3 rfl)) ?_
 refine w_x rfl (fun w1 h1 => x_lss rfl rfl) ?_
 refine w_nil ?_
 intro w5 hl6
 have S7 := S2.step hl6
 refine l_nil ?_
 refine r_ifd rfl (fun hc137 => ?_) (fun hc137 => ?_)
 ·skip
  refine r_seq ?_
  refine r_region ?_
  refine l_a rfl ?_
  refine l_nil ?_
  refine r_ret (rs := [.tmp 4]) [_] Tryz.func136 rfl ⟨rfl, trivial⟩ ?_
  exact ⟨n, _, by rw [do_grant0 hk (by omega)]; rfl, by rw [do_grant0 hk (by omega)]; rfl, Own.stMono (A := []) (S7.take 1) (Nat.le_succ m)⟩
 refine r_skip ?_
 refine r_seq ?_
 refine r_seq ?_
 refine r_region ?_
 refine l_x rfl (x_fieldAddr rfl Tryz.runUnderlying26 rfl Tryz.sizeOf5 (by decide)) ?_
 refine l_x rfl (x_load rfl (ld_blk (S7.blk 1 rfl) Tryz.isAgg5 rfl)) ?_
 refine l_nil ?_
 refine r_block ?_
 refine r_seq ?_
 refine r_region ?_
 refine l_x rfl (x_eql rfl rfl) ?_
 refine l_a rfl ?_
 refine l_nil ?_
 refine r_ifd rfl (fun hc140 => ?_) (fun hc140 => ?_)
 ·skip
  refine r_region ?_
  refine l_m rfl ?_
  refine l_x rfl (x_fieldAddr rfl Tryz.runUnderlying26 rfl Tryz.sizeOf3 (by decide)) ?_
  refine l_x rfl (x_load rfl (ld_blk (S7.blk 1 rfl) Tryz.isAgg3 rfl)) ?_
  refine l_x rfl (x_fieldAddr rfl Tryz.runUnderlying26 rfl Tryz.sizeOf3 (by decide)) ?_
  refine l_x rfl (x_load rfl (ld_blk (S7.blk 1 rfl) Tryz.isAgg3 rfl)) ?_
  refine l_x rfl (x_fieldAddr rfl Tryz.runUnderlying26 rfl Tryz.sizeOf3 (by decide)) ?_
  refine l_x rfl (x_load rfl (ld_blk (S7.blk 1 rfl) Tryz.isAgg3 rfl)) ?_
  refine l_call [] [] [_, _, _, _] rfl rfl Tryz.call170 rfl (c_rmove b n m s hm a.1.frm a.1.to a.1.parts (enters l) (by omega) (by omega) (by omega) hB hI.bal ⟨by omega, by omega⟩ _ (S7.lend 0 rfl)) ?_
  rintro _ w8 ⟨nn10, hb11⟩
  have S9 := S7.back 0 rfl hb11
  refine l_nil ?_
  refine r_inBlock ?_
  refine r_seq ?_
  refine r_region ?_
  refine l_a rfl ?_
  refine l_nil ?_
  refine r_ret (rs := [.tmp 4]) [_] Tryz.func136 rfl ⟨rfl, trivial⟩ ?_
  exact ⟨nn10, _, by rw [do_grant hk (by omega)]; rfl, by rw [do_grant hk (by omega)]; rfl, Own.stMono (A := []) (S9.take 1) (Nat.le_succ m)⟩
 omega

set_option maxHeartbeats 4000000 in
theorem c_rdo4 (b : Nat) (n : SNm) (m : Nat) (s : St) (hm : m ≤ 400) (l : List D) (a : Rw) (hf : formed a.1 = true) (hI : StI s l) (he : enters l ≤ 1000000000) (hl : l.length ≤ 400) (hN : NN s a.1.day) (hk : a.1.kind = 4) (w : World) (S0 : Own (stF TS b n) w w [stS TS b n m s]) :
  Cl Tryz.prog 136 #[.pointer (some ⟨b, 0, none⟩), .agg (encD a).toArray] w fun v w' => ∃ n' s', (do1 s a.1).getD s = s' ∧ v = .bool (do1 s a.1).isSome ∧ Own (stF TS b n) w w' [stS TS b n' (m + 1) s'] := by
 have hB := hI.stb he hl
 have hfm := formed_id hf
 have hq := formed_two hf (by omega)
 have hfh := free_holds9 hB (o := a.1.frm) (day := a.1.day)
 have hfl := free_le1 hB (o := a.1.frm) (day := a.1.day)
 refine fn_of_run (args := [_, _]) 207 Tryz.func136 rfl rfl rfl fun cs => ?_
 have S := S0
 refine r_seq ?_
 refine r_region ?_
 refine l_box S rfl rfl ?_
 intro b4 w1 S2 hl3
 refine l_a rfl ?_
 refine l_nil ?_
 refine r_seq ?_
 refine r_seq ?_
 refine r_region ?_
 refine l_x rfl (x_fieldAddr rfl Tryz.runUnderlying26 rfl Tryz.sizeOf5 (by decide)) ?_
 refine l_x rfl (x_load rfl (ld_blk (S2.blk 1 rfl) Tryz.isAgg5 rfl)) ?_
 refine l_nil ?_
 refine r_block ?_
 refine r_seq ?_
 refine r_region ?_
 refine l_x rfl (x_eql rfl rfl) ?_
 refine l_a rfl ?_
 refine l_nil ?_
 refine r_ifd rfl (fun hc11 => ?_) (fun hc11 => ?_)
 ·omega
 refine r_seq ?_
 refine r_region ?_
 refine l_x rfl (x_eql rfl rfl) ?_
 refine l_a rfl ?_
 refine l_nil ?_
 refine r_ifd rfl (fun hc51 => ?_) (fun hc51 => ?_)
 ·omega
 refine r_seq ?_
 refine r_seq ?_
 refine r_region ?_
 refine l_x rfl (x_eql rfl rfl) ?_
 refine l_a rfl ?_
 refine l_nil ?_
 refine r_ifd rfl (fun hc85 => ?_) (fun hc85 => ?_)
 ·omega
 refine r_region ?_
 refine l_x rfl (x_eql rfl rfl) ?_
 refine l_a rfl ?_
 refine l_nil ?_
 refine r_ifd rfl (fun hc85 => ?_) (fun hc85 => ?_)
 ·omega
 refine r_skip ?_
 refine r_inBlock ?_
 refine r_seq ?_
 refine r_seq ?_
 refine r_drawR 9 Tryz.mixed (by kernel_rfl) ?_
 refine w_x rfl (fun w1 h1 => x_mv rfl) ?_
 refine w_x rfl (fun w1 h1 => x_fieldAddr rfl Tryz.runUnderlying26 rfl Tryz.sizeOf3 (by decide)) ?_
 refine w_x rfl (fun w1 h1 => x_load rfl (ld_blk ((S2.step h1).blk 1 rfl) Tryz.isAgg3 rfl)) ?_
 refine w_x rfl (fun w1 h1 => x_fieldAddr rfl Tryz.runUnderlying26 rfl Tryz.sizeOf3 (by decide)) ?_
 refine w_x rfl (fun w1 h1 => x_load rfl (ld_blk ((S2.step h1).blk 1 rfl) Tryz.isAgg3 rfl)) ?_
 refine wd_call [] [] [_, _, _] rfl rfl Tryz.call168 rfl (fun w1 h1 => c_rfree b n m s hm a.1.frm a.1.day (by omega) hB hN.ld _ ((S2.step h1).ro 0 rfl)) ?_
 refine w_x rfl (fun w1 h1 => x_fieldAddr rfl Tryz.runUnderlying26 rfl Tryz.sizeOf3 (by decide)) ?_
 refine w_x rfl (fun w1 h1 => x_load rfl (ld_blk ((S2.step h1).blk 1 rfl) Tryz.isAgg3 rfl)) ?_
 refine w_x rfl (fun w1 h1 => x_lss rfl rfl) ?_
 refine w_nil ?_
 intro w5 hl6
 have S7 := S2.step hl6
 refine l_nil ?_
 refine r_ifd rfl (fun hc137 => ?_) (fun hc137 => ?_)
 ·skip
  refine r_seq ?_
  refine r_region ?_
  refine l_a rfl ?_
  refine l_nil ?_
  refine r_ret (rs := [.tmp 4]) [_] Tryz.func136 rfl ⟨rfl, trivial⟩ ?_
  exact ⟨n, _, by rw [do_lease0 hk (by omega)]; rfl, by rw [do_lease0 hk (by omega)]; rfl, Own.stMono (A := []) (S7.take 1) (Nat.le_succ m)⟩
 refine r_skip ?_
 refine r_seq ?_
 refine r_seq ?_
 refine r_region ?_
 refine l_x rfl (x_fieldAddr rfl Tryz.runUnderlying26 rfl Tryz.sizeOf5 (by decide)) ?_
 refine l_x rfl (x_load rfl (ld_blk (S7.blk 1 rfl) Tryz.isAgg5 rfl)) ?_
 refine l_nil ?_
 refine r_block ?_
 refine r_seq ?_
 refine r_region ?_
 refine l_x rfl (x_eql rfl rfl) ?_
 refine l_a rfl ?_
 refine l_nil ?_
 refine r_ifd rfl (fun hc140 => ?_) (fun hc140 => ?_)
 ·omega
 refine r_seq ?_
 refine r_region ?_
 refine l_x rfl (x_eql rfl rfl) ?_
 refine l_a rfl ?_
 refine l_nil ?_
 refine r_ifd rfl (fun hc150 => ?_) (fun hc150 => ?_)
 ·skip
  obtain ⟨r, hO, So⟩ := Own.stOpen (A := [_]) (S7.pick (L' := [_, _]) [1, 0] (by decide) rfl)
  have hll := r_ll hO hB
  have hpl := hO.pl
  have hel := hO.e
  refine r_drawE 22 (yng w5) Tryz.mixed (by kernel_rfl) ?_
  intro w8 hl9
  have S10 := So.step hl9
  have hy11 : Keep (yng w5) w5 w8 := .of_le hl9
  refine e_exact 0 _ (by kernel_rfl) rfl rfl (by kernel_rfl) rfl (ex_x rfl (fun w1 h1 => x_mv rfl)) ?_
  refine e_exact 2 _ (by kernel_rfl) rfl rfl (by kernel_rfl) rfl (ex_x rfl (fun w1 h1 => x_mv rfl)) ?_
  refine e_exact 3 _ (by kernel_rfl) rfl rfl (by kernel_rfl) rfl (ex_x rfl (fun w1 h1 => x_nilCheck rfl)) ?_
  refine e_exact 4 _ (by kernel_rfl) rfl rfl (by kernel_rfl) rfl (ex_x rfl (fun w1 h1 => x_fieldAddr rfl Tryz.runUnderlying108 rfl Tryz.sizeOf78 (by decide))) ?_
  refine e_exact 5 _ (by kernel_rfl) rfl rfl (by kernel_rfl) rfl (ex_x rfl (fun w1 h1 => x_load rfl (ld_blk ((So.yng (hy11.trans h1)).blk 1 rfl) Tryz.isAgg78 stL_get))) ?_
  refine e_exact 7 _ (by kernel_rfl) rfl rfl (by kernel_rfl) rfl (ex_x rfl (fun w1 h1 => x_fieldAddr rfl Tryz.runUnderlying26 rfl Tryz.sizeOf3 (by decide))) ?_
  refine e_exact 8 _ (by kernel_rfl) rfl rfl (by kernel_rfl) rfl (ex_x rfl (fun w1 h1 => x_load rfl (ld_blk ((So.yng (hy11.trans h1)).blk 0 rfl) Tryz.isAgg3 rfl))) ?_
  refine e_exact 9 _ (by kernel_rfl) rfl rfl (by kernel_rfl) rfl (ex_x rfl (fun w1 h1 => x_fieldAddr rfl Tryz.runUnderlying26 rfl Tryz.sizeOf3 (by decide))) ?_
  refine e_exact 10 _ (by kernel_rfl) rfl rfl (by kernel_rfl) rfl (ex_x rfl (fun w1 h1 => x_load rfl (ld_blk ((So.yng (hy11.trans h1)).blk 0 rfl) Tryz.isAgg3 rfl))) ?_
  refine e_exact 11 _ (by kernel_rfl) rfl rfl (by kernel_rfl) rfl (ex_x rfl (fun w1 h1 => x_fieldAddr rfl Tryz.runUnderlying26 rfl Tryz.sizeOf3 (by decide))) ?_
  refine e_exact 12 _ (by kernel_rfl) rfl rfl (by kernel_rfl) rfl (ex_x rfl (fun w1 h1 => x_load rfl (ld_blk ((So.yng (hy11.trans h1)).blk 0 rfl) Tryz.isAgg3 rfl))) ?_
  refine e_exact 13 _ (by kernel_rfl) rfl rfl (by kernel_rfl) rfl (ex_x rfl (fun w1 h1 => x_fieldAddr rfl Tryz.runUnderlying26 rfl Tryz.sizeOf3 (by decide))) ?_
  refine e_exact 14 _ (by kernel_rfl) rfl rfl (by kernel_rfl) rfl (ex_x rfl (fun w1 h1 => x_load rfl (ld_blk ((So.yng (hy11.trans h1)).blk 0 rfl) Tryz.isAgg3 rfl))) ?_
  refine e_exact 15 _ (by kernel_rfl) rfl rfl (by kernel_rfl) rfl (ex_x rfl (fun w1 h1 => x_fieldAddr rfl Tryz.runUnderlying26 rfl Tryz.sizeOf3 (by decide))) ?_
  refine e_exact 16 _ (by kernel_rfl) rfl rfl (by kernel_rfl) rfl (ex_x rfl (fun w1 h1 => x_load rfl (ld_blk ((So.yng (hy11.trans h1)).blk 0 rfl) Tryz.isAgg3 rfl))) ?_
  refine e_exact 17 _ (by kernel_rfl) rfl rfl (by kernel_rfl) rfl (ex_x rfl (fun w1 h1 => x_buildS (out := [_, _, _, _, _]) (ss := [1, 1, 1, 1, 1]) Tryz.zeroValue84 rfl Tryz.runUnderlying84 ⟨Tryz.sizeOf3, Tryz.sizeOf3, Tryz.sizeOf3, Tryz.sizeOf3, Tryz.sizeOf3, trivial⟩ (fill_cons rfl rfl rfl (Nat.le_of_ble_eq_true rfl) (fill_cons rfl rfl rfl (Nat.le_of_ble_eq_true rfl) (fill_cons rfl rfl rfl (Nat.le_of_ble_eq_true rfl) (fill_cons rfl rfl rfl (Nat.le_of_ble_eq_true rfl) (fill_cons rfl rfl rfl (Nat.le_of_ble_eq_true rfl) fill_nil))))))) ?_
  refine e_next [1, 18] (by kernel_rfl) (by kernel_rfl) ⟨⟨_, _, rfl, rfl, ?_⟩, ⟨_, _, rfl, rfl, ?_⟩, trivial⟩
  ·skip
   refine s_buildSlice ELZ [] (Own.start (X := nob) w8) rfl Tryz.runUnderlying78 Tryz.sizeOf84 Tryz.zeroValue84 rfl trivial (by decide) ?_
   intro v16 w12 S13 hl15
   have hn17 := S13.new 0 rfl
   have S14 := S10.add hl15 hn17
   refine ⟨.of_le hl15, ?_⟩
   have hyb18 : ∀ c, (vec ELZ v16 []).fp c → yng w5 c := fun c hc => Nat.le_trans hy11.size (hn17.bd c hc).1
   have hy19 : Keep (yng w5) w5 w12 := hy11.trans (Keep.of_le hl15)
   refine e_next [6, 18] (by kernel_rfl) (by kernel_rfl) ⟨⟨_, _, rfl, rfl, ?_⟩, ⟨_, _, rfl, rfl, ?_⟩, trivial⟩
   ·skip
    refine s_append ELZ (S14.lend 6 rfl) 0 rfl rfl rfl rfl (vec_rd (S14.at 2 rfl)) Tryz.underlying78 info84 rfl rfl rfl (by unfold maxLen; rw [List.length_nil]; omega) (by rw [List.length_nil]; show _ * 40 ≤ _; omega) ?_
    intro v24 w20 S21 hk23 hv25
    have S22 := S14.back 6 rfl S21
    have hyb26 : ∀ c, (vec ELZ v24 []).fp c → yng w5 c := fun c hc => (S21.bd 0 _ rfl c hc).2.elim (fun h => Nat.le_trans hy19.size h) (hyb18 c)
    refine ⟨hk23.mono fun c _ hc => hyb18 c hc, ?_⟩
    have hy27 : Keep (yng w5) w5 w20 := hy19.trans (hk23.mono fun c _ hc => hyb18 c hc)
    refine e_next [18] (by kernel_rfl) (by kernel_rfl) ⟨⟨_, _, rfl, rfl, ?_⟩, trivial⟩
    refine s_buildSlice ELZ [(⟨a.1.id, a.1.frm, a.1.to, a.1.parts, a.1.stop⟩ : Lz)] (Own.start (X := nob) w20) rfl Tryz.runUnderlying78 Tryz.sizeOf84 Tryz.zeroValue84 rfl ⟨rfl, rfl, trivial⟩ (by decide) ?_
    intro v32 w28 S29 hl31
    have hn33 := S29.new 0 rfl
    have S30 := S22.add hl31 hn33
    refine ⟨.of_le hl31, ?_⟩
    have hyb34 : ∀ c, (vec ELZ v32 []).fp c → yng w5 c := fun c hc => Nat.le_trans hy27.size (hn33.bd c hc).1
    have hy35 : Keep (yng w5) w5 w28 := hy27.trans (Keep.of_le hl31)
    refine e_next [19] (by kernel_rfl) (by kernel_rfl) ⟨⟨_, _, rfl, rfl, ?_⟩, trivial⟩
    refine s_append ELZ (S30.lend 6 rfl) 0 rfl rfl rfl rfl (vec_rd (S30.at 7 rfl)) Tryz.underlying78 info84 rfl rfl rfl (by unfold maxLen; simp; omega) (by show _ * 40 ≤ _; simp; omega) ?_
    intro v40 w36 S37 hk39 hv41
    have S38 := S30.back 6 rfl S37
    have hyb42 : ∀ c, (vec ELZ v40 []).fp c → yng w5 c := fun c hc => (S37.bd 0 _ rfl c hc).2.elim (fun h => Nat.le_trans hy35.size h) (hyb26 c)
    refine ⟨hk39.mono fun c _ hc => hyb26 c hc, ?_⟩
    have hy43 : Keep (yng w5) w5 w36 := hy35.trans (hk39.mono fun c _ hc => hyb26 c hc)
    refine e_exact 20 _ (by kernel_rfl) rfl rfl (by kernel_rfl) rfl (ex_x rfl (fun w1 h1 => x_nilCheck rfl)) ?_
    refine e_exact 21 _ (by kernel_rfl) rfl rfl (by kernel_rfl) rfl (ex_x rfl (fun w1 h1 => x_fieldAddr rfl Tryz.runUnderlying108 rfl Tryz.sizeOf78 (by decide))) ?_
    refine e_done (by kernel_rfl) ?_
    refine l_storeq (v := v40) S38 1 rfl rfl rfl rfl (Rd.one (vec_rd (S38.at 6 rfl))) Tryz.sizeOf78 (stV_lt (k := 0) (by decide)) stL_set ?_
    intro w44 S45 hk46
    refine l_nil ?_
    refine r_inBlock ?_
    refine r_seq ?_
    refine r_region ?_
    refine l_a rfl ?_
    refine l_nil ?_
    refine r_ret (rs := [.tmp 4]) [_] Tryz.func136 rfl ⟨rfl, trivial⟩ ?_
    exact ⟨{ n with lv := v40 }, _, by rw [do_lease hk (by omega)]; rfl, by rw [do_lease hk (by omega)]; rfl, Own.stShut (A := []) (r := { r with ls := r.ls ++ [⟨a.1.id, a.1.frm, a.1.to, a.1.parts, a.1.stop⟩] }) (S45.pick (L' := [_, _, _, _, _]) [1, 6, 3, 4, 5] (by decide) rfl) (hO.lease.mono (Nat.le_succ m))⟩
   refine s_buildSlice ELZ [(⟨a.1.id, a.1.frm, a.1.to, a.1.parts, a.1.stop⟩ : Lz)] (Own.start (X := nob) w12) rfl Tryz.runUnderlying78 Tryz.sizeOf84 Tryz.zeroValue84 rfl ⟨rfl, rfl, trivial⟩ (by decide) ?_
   intro v51 w47 S48 hl50
   have hn52 := S48.new 0 rfl
   have S49 := S14.add hl50 hn52
   refine ⟨.of_le hl50, ?_⟩
   have hyb53 : ∀ c, (vec ELZ v51 []).fp c → yng w5 c := fun c hc => Nat.le_trans hy19.size (hn52.bd c hc).1
   have hy54 : Keep (yng w5) w5 w47 := hy19.trans (Keep.of_le hl50)
   refine e_next [6] (by kernel_rfl) (by kernel_rfl) ⟨⟨_, _, rfl, rfl, ?_⟩, trivial⟩
   refine s_append ELZ (S49.lend 6 rfl) 0 rfl rfl rfl rfl (vec_rd (S49.at 2 rfl)) Tryz.underlying78 info84 rfl rfl rfl (by unfold maxLen; rw [List.length_nil]; omega) (by rw [List.length_nil]; show _ * 40 ≤ _; omega) ?_
   intro v59 w55 S56 hk58 hv60
   have S57 := S49.back 6 rfl S56
   have hyb61 : ∀ c, (vec ELZ v59 []).fp c → yng w5 c := fun c hc => (S56.bd 0 _ rfl c hc).2.elim (fun h => Nat.le_trans hy54.size h) (hyb18 c)
   refine ⟨hk58.mono fun c _ hc => hyb18 c hc, ?_⟩
   have hy62 : Keep (yng w5) w5 w55 := hy54.trans (hk58.mono fun c _ hc => hyb18 c hc)
   refine e_next [19] (by kernel_rfl) (by kernel_rfl) ⟨⟨_, _, rfl, rfl, ?_⟩, trivial⟩
   refine s_append ELZ (S57.lend 6 rfl) 0 rfl rfl rfl rfl (vec_rd (S57.at 7 rfl)) Tryz.underlying78 info84 rfl rfl rfl (by unfold maxLen; simp; omega) (by show _ * 40 ≤ _; simp; omega) ?_
   intro v67 w63 S64 hk66 hv68
   have S65 := S57.back 6 rfl S64
   have hyb69 : ∀ c, (vec ELZ v67 []).fp c → yng w5 c := fun c hc => (S64.bd 0 _ rfl c hc).2.elim (fun h => Nat.le_trans hy62.size h) (hyb61 c)
   refine ⟨hk66.mono fun c _ hc => hyb61 c hc, ?_⟩
   have hy70 : Keep (yng w5) w5 w63 := hy62.trans (hk66.mono fun c _ hc => hyb61 c hc)
   refine e_exact 20 _ (by kernel_rfl) rfl rfl (by kernel_rfl) rfl (ex_x rfl (fun w1 h1 => x_nilCheck rfl)) ?_
   refine e_exact 21 _ (by kernel_rfl) rfl rfl (by kernel_rfl) rfl (ex_x rfl (fun w1 h1 => x_fieldAddr rfl Tryz.runUnderlying108 rfl Tryz.sizeOf78 (by decide))) ?_
   refine e_done (by kernel_rfl) ?_
   refine l_storeq (v := v67) S65 1 rfl rfl rfl rfl (Rd.one (vec_rd (S65.at 6 rfl))) Tryz.sizeOf78 (stV_lt (k := 0) (by decide)) stL_set ?_
   intro w71 S72 hk73
   refine l_nil ?_
   refine r_inBlock ?_
   refine r_seq ?_
   refine r_region ?_
   refine l_a rfl ?_
   refine l_nil ?_
   refine r_ret (rs := [.tmp 4]) [_] Tryz.func136 rfl ⟨rfl, trivial⟩ ?_
   exact ⟨{ n with lv := v67 }, _, by rw [do_lease hk (by omega)]; rfl, by rw [do_lease hk (by omega)]; rfl, Own.stShut (A := []) (r := { r with ls := r.ls ++ [⟨a.1.id, a.1.frm, a.1.to, a.1.parts, a.1.stop⟩] }) (S72.pick (L' := [_, _, _, _, _]) [1, 6, 3, 4, 5] (by decide) rfl) (hO.lease.mono (Nat.le_succ m))⟩
  refine s_buildSlice ELZ [(⟨a.1.id, a.1.frm, a.1.to, a.1.parts, a.1.stop⟩ : Lz)] (Own.start (X := nob) w8) rfl Tryz.runUnderlying78 Tryz.sizeOf84 Tryz.zeroValue84 rfl ⟨rfl, rfl, trivial⟩ (by decide) ?_
  intro v78 w74 S75 hl77
  have hn79 := S75.new 0 rfl
  have S76 := S10.add hl77 hn79
  refine ⟨.of_le hl77, ?_⟩
  have hyb80 : ∀ c, (vec ELZ v78 []).fp c → yng w5 c := fun c hc => Nat.le_trans hy11.size (hn79.bd c hc).1
  have hy81 : Keep (yng w5) w5 w74 := hy11.trans (Keep.of_le hl77)
  refine e_next [1] (by kernel_rfl) (by kernel_rfl) ⟨⟨_, _, rfl, rfl, ?_⟩, trivial⟩
  refine s_buildSlice ELZ [] (Own.start (X := nob) w74) rfl Tryz.runUnderlying78 Tryz.sizeOf84 Tryz.zeroValue84 rfl trivial (by decide) ?_
  intro v86 w82 S83 hl85
  have hn87 := S83.new 0 rfl
  have S84 := S76.add hl85 hn87
  refine ⟨.of_le hl85, ?_⟩
  have hyb88 : ∀ c, (vec ELZ v86 []).fp c → yng w5 c := fun c hc => Nat.le_trans hy81.size (hn87.bd c hc).1
  have hy89 : Keep (yng w5) w5 w82 := hy81.trans (Keep.of_le hl85)
  refine e_next [6] (by kernel_rfl) (by kernel_rfl) ⟨⟨_, _, rfl, rfl, ?_⟩, trivial⟩
  refine s_append ELZ (S84.lend 7 rfl) 0 rfl rfl rfl rfl (vec_rd (S84.at 2 rfl)) Tryz.underlying78 info84 rfl rfl rfl (by unfold maxLen; rw [List.length_nil]; omega) (by rw [List.length_nil]; show _ * 40 ≤ _; omega) ?_
  intro v94 w90 S91 hk93 hv95
  have S92 := S84.back 7 rfl S91
  have hyb96 : ∀ c, (vec ELZ v94 []).fp c → yng w5 c := fun c hc => (S91.bd 0 _ rfl c hc).2.elim (fun h => Nat.le_trans hy89.size h) (hyb88 c)
  refine ⟨hk93.mono fun c _ hc => hyb88 c hc, ?_⟩
  have hy97 : Keep (yng w5) w5 w90 := hy89.trans (hk93.mono fun c _ hc => hyb88 c hc)
  refine e_next [19] (by kernel_rfl) (by kernel_rfl) ⟨⟨_, _, rfl, rfl, ?_⟩, trivial⟩
  refine s_append ELZ (S92.lend 7 rfl) 0 rfl rfl rfl rfl (vec_rd (S92.at 6 rfl)) Tryz.underlying78 info84 rfl rfl rfl (by unfold maxLen; simp; omega) (by show _ * 40 ≤ _; simp; omega) ?_
  intro v102 w98 S99 hk101 hv103
  have S100 := S92.back 7 rfl S99
  have hyb104 : ∀ c, (vec ELZ v102 []).fp c → yng w5 c := fun c hc => (S99.bd 0 _ rfl c hc).2.elim (fun h => Nat.le_trans hy97.size h) (hyb96 c)
  refine ⟨hk101.mono fun c _ hc => hyb96 c hc, ?_⟩
  have hy105 : Keep (yng w5) w5 w98 := hy97.trans (hk101.mono fun c _ hc => hyb96 c hc)
  refine e_exact 20 _ (by kernel_rfl) rfl rfl (by kernel_rfl) rfl (ex_x rfl (fun w1 h1 => x_nilCheck rfl)) ?_
  refine e_exact 21 _ (by kernel_rfl) rfl rfl (by kernel_rfl) rfl (ex_x rfl (fun w1 h1 => x_fieldAddr rfl Tryz.runUnderlying108 rfl Tryz.sizeOf78 (by decide))) ?_
  refine e_done (by kernel_rfl) ?_
  refine l_storeq (v := v102) S100 1 rfl rfl rfl rfl (Rd.one (vec_rd (S100.at 7 rfl))) Tryz.sizeOf78 (stV_lt (k := 0) (by decide)) stL_set ?_
  intro w106 S107 hk108
  refine l_nil ?_
  refine r_inBlock ?_
  refine r_seq ?_
  refine r_region ?_
  refine l_a rfl ?_
  refine l_nil ?_
  refine r_ret (rs := [.tmp 4]) [_] Tryz.func136 rfl ⟨rfl, trivial⟩ ?_
  exact ⟨{ n with lv := v102 }, _, by rw [do_lease hk (by omega)]; rfl, by rw [do_lease hk (by omega)]; rfl, Own.stShut (A := []) (r := { r with ls := r.ls ++ [⟨a.1.id, a.1.frm, a.1.to, a.1.parts, a.1.stop⟩] }) (S107.pick (L' := [_, _, _, _, _]) [1, 7, 3, 4, 5] (by decide) rfl) (hO.lease.mono (Nat.le_succ m))⟩
 omega

set_option maxHeartbeats 4000000 in
theorem c_rdo5 (b : Nat) (n : SNm) (m : Nat) (s : St) (hm : m ≤ 400) (l : List D) (a : Rw) (hf : formed a.1 = true) (hI : StI s l) (he : enters l ≤ 1000000000) (hl : l.length ≤ 400) (hN : NN s a.1.day) (hk : a.1.kind = 5) (w : World) (S0 : Own (stF TS b n) w w [stS TS b n m s]) :
  Cl Tryz.prog 136 #[.pointer (some ⟨b, 0, none⟩), .agg (encD a).toArray] w fun v w' => ∃ n' s', (do1 s a.1).getD s = s' ∧ v = .bool (do1 s a.1).isSome ∧ Own (stF TS b n) w w' [stS TS b n' (m + 1) s'] := by
 have hB := hI.stb he hl
 have hfm := formed_id hf
 have hq := formed_two hf (by omega)
 have hfh := free_holds9 hB (o := a.1.frm) (day := a.1.day)
 have hfl := free_le1 hB (o := a.1.frm) (day := a.1.day)
 refine fn_of_run (args := [_, _]) 207 Tryz.func136 rfl rfl rfl fun cs => ?_
 have S := S0
 refine r_seq ?_
 refine r_region ?_
 refine l_box S rfl rfl ?_
 intro b4 w1 S2 hl3
 refine l_a rfl ?_
 refine l_nil ?_
 refine r_seq ?_
 refine r_seq ?_
 refine r_region ?_
 refine l_x rfl (x_fieldAddr rfl Tryz.runUnderlying26 rfl Tryz.sizeOf5 (by decide)) ?_
 refine l_x rfl (x_load rfl (ld_blk (S2.blk 1 rfl) Tryz.isAgg5 rfl)) ?_
 refine l_nil ?_
 refine r_block ?_
 refine r_seq ?_
 refine r_region ?_
 refine l_x rfl (x_eql rfl rfl) ?_
 refine l_a rfl ?_
 refine l_nil ?_
 refine r_ifd rfl (fun hc11 => ?_) (fun hc11 => ?_)
 ·omega
 refine r_seq ?_
 refine r_region ?_
 refine l_x rfl (x_eql rfl rfl) ?_
 refine l_a rfl ?_
 refine l_nil ?_
 refine r_ifd rfl (fun hc51 => ?_) (fun hc51 => ?_)
 ·omega
 refine r_seq ?_
 refine r_seq ?_
 refine r_region ?_
 refine l_x rfl (x_eql rfl rfl) ?_
 refine l_a rfl ?_
 refine l_nil ?_
 refine r_ifd rfl (fun hc85 => ?_) (fun hc85 => ?_)
 ·omega
 refine r_region ?_
 refine l_x rfl (x_eql rfl rfl) ?_
 refine l_a rfl ?_
 refine l_nil ?_
 refine r_ifd rfl (fun hc85 => ?_) (fun hc85 => ?_)
 ·omega
 refine r_skip ?_
 refine r_inBlock ?_
 refine r_seq ?_
 refine r_seq ?_
 refine r_drawR 9 Tryz.mixed (by kernel_rfl) ?_
 refine w_x rfl (fun w1 h1 => x_mv rfl) ?_
 refine w_x rfl (fun w1 h1 => x_fieldAddr rfl Tryz.runUnderlying26 rfl Tryz.sizeOf3 (by decide)) ?_
 refine w_x rfl (fun w1 h1 => x_load rfl (ld_blk ((S2.step h1).blk 1 rfl) Tryz.isAgg3 rfl)) ?_
 refine w_x rfl (fun w1 h1 => x_fieldAddr rfl Tryz.runUnderlying26 rfl Tryz.sizeOf3 (by decide)) ?_
 refine w_x rfl (fun w1 h1 => x_load rfl (ld_blk ((S2.step h1).blk 1 rfl) Tryz.isAgg3 rfl)) ?_
 refine wd_call [] [] [_, _, _] rfl rfl Tryz.call168 rfl (fun w1 h1 => c_rfree b n m s hm a.1.frm a.1.day (by omega) hB hN.ld _ ((S2.step h1).ro 0 rfl)) ?_
 refine w_x rfl (fun w1 h1 => x_fieldAddr rfl Tryz.runUnderlying26 rfl Tryz.sizeOf3 (by decide)) ?_
 refine w_x rfl (fun w1 h1 => x_load rfl (ld_blk ((S2.step h1).blk 1 rfl) Tryz.isAgg3 rfl)) ?_
 refine w_x rfl (fun w1 h1 => x_lss rfl rfl) ?_
 refine w_nil ?_
 intro w5 hl6
 have S7 := S2.step hl6
 refine l_nil ?_
 refine r_ifd rfl (fun hc137 => ?_) (fun hc137 => ?_)
 ·skip
  refine r_seq ?_
  refine r_region ?_
  refine l_a rfl ?_
  refine l_nil ?_
  refine r_ret (rs := [.tmp 4]) [_] Tryz.func136 rfl ⟨rfl, trivial⟩ ?_
  exact ⟨n, _, by rw [do_pledge0 hk (by omega)]; rfl, by rw [do_pledge0 hk (by omega)]; rfl, Own.stMono (A := []) (S7.take 1) (Nat.le_succ m)⟩
 refine r_skip ?_
 refine r_seq ?_
 refine r_seq ?_
 refine r_region ?_
 refine l_x rfl (x_fieldAddr rfl Tryz.runUnderlying26 rfl Tryz.sizeOf5 (by decide)) ?_
 refine l_x rfl (x_load rfl (ld_blk (S7.blk 1 rfl) Tryz.isAgg5 rfl)) ?_
 refine l_nil ?_
 refine r_block ?_
 refine r_seq ?_
 refine r_region ?_
 refine l_x rfl (x_eql rfl rfl) ?_
 refine l_a rfl ?_
 refine l_nil ?_
 refine r_ifd rfl (fun hc140 => ?_) (fun hc140 => ?_)
 ·omega
 refine r_seq ?_
 refine r_region ?_
 refine l_x rfl (x_eql rfl rfl) ?_
 refine l_a rfl ?_
 refine l_nil ?_
 refine r_ifd rfl (fun hc150 => ?_) (fun hc150 => ?_)
 ·omega
 refine r_seq ?_
 refine r_region ?_
 refine l_x rfl (x_eql rfl rfl) ?_
 refine l_a rfl ?_
 refine l_nil ?_
 refine r_ifd rfl (fun hc174 => ?_) (fun hc174 => ?_)
 ·skip
  refine r_seq ?_
  obtain ⟨r, hO, So⟩ := Own.stOpen (A := [_]) (S7.pick (L' := [_, _]) [1, 0] (by decide) rfl)
  have hll := r_ll hO hB
  have hpl := hO.pl
  have hel := hO.e
  refine r_drawE 20 (yng w5) Tryz.mixed (by kernel_rfl) ?_
  intro w8 hl9
  have S10 := So.step hl9
  have hy11 : Keep (yng w5) w5 w8 := .of_le hl9
  refine e_exact 0 _ (by kernel_rfl) rfl rfl (by kernel_rfl) rfl (ex_x rfl (fun w1 h1 => x_mv rfl)) ?_
  refine e_exact 2 _ (by kernel_rfl) rfl rfl (by kernel_rfl) rfl (ex_x rfl (fun w1 h1 => x_mv rfl)) ?_
  refine e_exact 3 _ (by kernel_rfl) rfl rfl (by kernel_rfl) rfl (ex_x rfl (fun w1 h1 => x_nilCheck rfl)) ?_
  refine e_exact 4 _ (by kernel_rfl) rfl rfl (by kernel_rfl) rfl (ex_x rfl (fun w1 h1 => x_fieldAddr rfl Tryz.runUnderlying108 rfl Tryz.sizeOf81 (by decide))) ?_
  refine e_exact 5 _ (by kernel_rfl) rfl rfl (by kernel_rfl) rfl (ex_x rfl (fun w1 h1 => x_load rfl (ld_blk ((So.yng (hy11.trans h1)).blk 1 rfl) Tryz.isAgg81 stP_get))) ?_
  refine e_exact 7 _ (by kernel_rfl) rfl rfl (by kernel_rfl) rfl (ex_x rfl (fun w1 h1 => x_fieldAddr rfl Tryz.runUnderlying26 rfl Tryz.sizeOf3 (by decide))) ?_
  refine e_exact 8 _ (by kernel_rfl) rfl rfl (by kernel_rfl) rfl (ex_x rfl (fun w1 h1 => x_load rfl (ld_blk ((So.yng (hy11.trans h1)).blk 0 rfl) Tryz.isAgg3 rfl))) ?_
  refine e_exact 9 _ (by kernel_rfl) rfl rfl (by kernel_rfl) rfl (ex_x rfl (fun w1 h1 => x_fieldAddr rfl Tryz.runUnderlying26 rfl Tryz.sizeOf3 (by decide))) ?_
  refine e_exact 10 _ (by kernel_rfl) rfl rfl (by kernel_rfl) rfl (ex_x rfl (fun w1 h1 => x_load rfl (ld_blk ((So.yng (hy11.trans h1)).blk 0 rfl) Tryz.isAgg3 rfl))) ?_
  refine e_exact 11 _ (by kernel_rfl) rfl rfl (by kernel_rfl) rfl (ex_x rfl (fun w1 h1 => x_fieldAddr rfl Tryz.runUnderlying26 rfl Tryz.sizeOf3 (by decide))) ?_
  refine e_exact 12 _ (by kernel_rfl) rfl rfl (by kernel_rfl) rfl (ex_x rfl (fun w1 h1 => x_load rfl (ld_blk ((So.yng (hy11.trans h1)).blk 0 rfl) Tryz.isAgg3 rfl))) ?_
  refine e_exact 13 _ (by kernel_rfl) rfl rfl (by kernel_rfl) rfl (ex_x rfl (fun w1 h1 => x_fieldAddr rfl Tryz.runUnderlying26 rfl Tryz.sizeOf3 (by decide))) ?_
  refine e_exact 14 _ (by kernel_rfl) rfl rfl (by kernel_rfl) rfl (ex_x rfl (fun w1 h1 => x_load rfl (ld_blk ((So.yng (hy11.trans h1)).blk 0 rfl) Tryz.isAgg3 rfl))) ?_
  refine e_exact 15 _ (by kernel_rfl) rfl rfl (by kernel_rfl) rfl (ex_x rfl (fun w1 h1 => x_buildS (out := [_, _, _, _]) (ss := [1, 1, 1, 1]) Tryz.zeroValue86 rfl Tryz.runUnderlying86 ⟨Tryz.sizeOf3, Tryz.sizeOf3, Tryz.sizeOf3, Tryz.sizeOf3, trivial⟩ (fill_cons rfl rfl rfl (Nat.le_of_ble_eq_true rfl) (fill_cons rfl rfl rfl (Nat.le_of_ble_eq_true rfl) (fill_cons rfl rfl rfl (Nat.le_of_ble_eq_true rfl) (fill_cons rfl rfl rfl (Nat.le_of_ble_eq_true rfl) fill_nil)))))) ?_
  refine e_next [1, 16] (by kernel_rfl) (by kernel_rfl) ⟨⟨_, _, rfl, rfl, ?_⟩, ⟨_, _, rfl, rfl, ?_⟩, trivial⟩
  ·skip
   refine s_buildSlice EPL [] (Own.start (X := nob) w8) rfl Tryz.runUnderlying81 Tryz.sizeOf86 Tryz.zeroValue86 rfl trivial (by decide) ?_
   intro v16 w12 S13 hl15
   have hn17 := S13.new 0 rfl
   have S14 := S10.add hl15 hn17
   refine ⟨.of_le hl15, ?_⟩
   have hyb18 : ∀ c, (vec EPL v16 []).fp c → yng w5 c := fun c hc => Nat.le_trans hy11.size (hn17.bd c hc).1
   have hy19 : Keep (yng w5) w5 w12 := hy11.trans (Keep.of_le hl15)
   refine e_next [6, 16] (by kernel_rfl) (by kernel_rfl) ⟨⟨_, _, rfl, rfl, ?_⟩, ⟨_, _, rfl, rfl, ?_⟩, trivial⟩
   ·skip
    refine s_append EPL (S14.lend 6 rfl) 0 rfl rfl rfl rfl (vec_rd (S14.at 3 rfl)) Tryz.underlying81 info86 rfl rfl rfl (by unfold maxLen; rw [List.length_nil]; omega) (by rw [List.length_nil]; show _ * 32 ≤ _; omega) ?_
    intro v24 w20 S21 hk23 hv25
    have S22 := S14.back 6 rfl S21
    have hyb26 : ∀ c, (vec EPL v24 []).fp c → yng w5 c := fun c hc => (S21.bd 0 _ rfl c hc).2.elim (fun h => Nat.le_trans hy19.size h) (hyb18 c)
    refine ⟨hk23.mono fun c _ hc => hyb18 c hc, ?_⟩
    have hy27 : Keep (yng w5) w5 w20 := hy19.trans (hk23.mono fun c _ hc => hyb18 c hc)
    refine e_next [16] (by kernel_rfl) (by kernel_rfl) ⟨⟨_, _, rfl, rfl, ?_⟩, trivial⟩
    refine s_buildSlice EPL [(⟨a.1.id, a.1.frm, a.1.to, a.1.parts⟩ : Pl)] (Own.start (X := nob) w20) rfl Tryz.runUnderlying81 Tryz.sizeOf86 Tryz.zeroValue86 rfl ⟨rfl, rfl, trivial⟩ (by decide) ?_
    intro v32 w28 S29 hl31
    have hn33 := S29.new 0 rfl
    have S30 := S22.add hl31 hn33
    refine ⟨.of_le hl31, ?_⟩
    have hyb34 : ∀ c, (vec EPL v32 []).fp c → yng w5 c := fun c hc => Nat.le_trans hy27.size (hn33.bd c hc).1
    have hy35 : Keep (yng w5) w5 w28 := hy27.trans (Keep.of_le hl31)
    refine e_next [17] (by kernel_rfl) (by kernel_rfl) ⟨⟨_, _, rfl, rfl, ?_⟩, trivial⟩
    refine s_append EPL (S30.lend 6 rfl) 0 rfl rfl rfl rfl (vec_rd (S30.at 7 rfl)) Tryz.underlying81 info86 rfl rfl rfl (by unfold maxLen; simp; omega) (by show _ * 32 ≤ _; simp; omega) ?_
    intro v40 w36 S37 hk39 hv41
    have S38 := S30.back 6 rfl S37
    have hyb42 : ∀ c, (vec EPL v40 []).fp c → yng w5 c := fun c hc => (S37.bd 0 _ rfl c hc).2.elim (fun h => Nat.le_trans hy35.size h) (hyb26 c)
    refine ⟨hk39.mono fun c _ hc => hyb26 c hc, ?_⟩
    have hy43 : Keep (yng w5) w5 w36 := hy35.trans (hk39.mono fun c _ hc => hyb26 c hc)
    refine e_exact 18 _ (by kernel_rfl) rfl rfl (by kernel_rfl) rfl (ex_x rfl (fun w1 h1 => x_nilCheck rfl)) ?_
    refine e_exact 19 _ (by kernel_rfl) rfl rfl (by kernel_rfl) rfl (ex_x rfl (fun w1 h1 => x_fieldAddr rfl Tryz.runUnderlying108 rfl Tryz.sizeOf81 (by decide))) ?_
    refine e_done (by kernel_rfl) ?_
    refine l_storeq (v := v40) S38 1 rfl rfl rfl rfl (Rd.one (vec_rd (S38.at 6 rfl))) Tryz.sizeOf81 (stV_lt (k := 1) (by decide)) stP_set ?_
    intro w44 S45 hk46
    refine l_nil ?_
    refine r_region ?_
    refine l_m rfl ?_
    refine l_buildSlice EB [] S45 rfl Tryz.runUnderlying106 Tryz.sizeOf4 Tryz.zeroValue4 rfl trivial (Nat.le_of_ble_eq_true rfl) ?_
    intro v50 w47 S48 hl49
    refine l_m rfl ?_
    refine l_x rfl (x_nilCheck rfl) ?_
    refine l_x rfl (x_fieldAddr rfl Tryz.runUnderlying108 rfl Tryz.sizeOf106 (by decide)) ?_
    refine l_x rfl (x_load rfl (ld_blk (S48.blk 1 rfl) Tryz.isAgg106 stE_get)) ?_
    refine l_append EB S48 8 rfl rfl rfl rfl (vec_rd (S48.at 4 rfl)) Tryz.underlying106 info4 rfl rfl rfl (by unfold maxLen; rw [List.length_nil]; omega) (by rw [List.length_nil]; show _ * 1 ≤ _; omega) ?_
    intro v54 w51 S52 hk53 hv55
    refine l_buildSlice EB [false] S52 rfl Tryz.runUnderlying106 Tryz.sizeOf4 Tryz.zeroValue4 rfl ⟨rfl, rfl, trivial⟩ (Nat.le_of_ble_eq_true rfl) ?_
    intro v59 w56 S57 hl58
    refine l_append EB S57 8 rfl rfl rfl rfl (vec_rd (S57.at 9 rfl)) Tryz.underlying106 info4 rfl rfl rfl (by unfold maxLen; simp; omega) (by show _ * 1 ≤ _; simp; omega) ?_
    intro v63 w60 S61 hk62 hv64
    refine l_x rfl (x_nilCheck rfl) ?_
    refine l_x rfl (x_fieldAddr rfl Tryz.runUnderlying108 rfl Tryz.sizeOf106 (by decide)) ?_
    refine l_storeq (v := v63) S61 1 rfl rfl rfl rfl (Rd.one (vec_rd (S61.at 8 rfl))) Tryz.sizeOf106 (stV_lt (k := 2) (by decide)) stE_set ?_
    intro w65 S66 hk67
    refine l_nil ?_
    refine r_inBlock ?_
    refine r_seq ?_
    refine r_region ?_
    refine l_a rfl ?_
    refine l_nil ?_
    refine r_ret (rs := [.tmp 4]) [_] Tryz.func136 rfl ⟨rfl, trivial⟩ ?_
    exact ⟨{ n with pv := v40, ev := v63 }, _, by rw [do_pledge hk (by omega)]; rfl, by rw [do_pledge hk (by omega)]; rfl, Own.stShut (A := []) (r := { r with ps := r.ps ++ [⟨a.1.id, a.1.frm, a.1.to, a.1.parts⟩], es := r.es ++ [false] }) (S66.pick (L' := [_, _, _, _, _]) [1, 2, 6, 8, 5] (by decide) rfl) hO.pledge⟩
   refine s_buildSlice EPL [(⟨a.1.id, a.1.frm, a.1.to, a.1.parts⟩ : Pl)] (Own.start (X := nob) w12) rfl Tryz.runUnderlying81 Tryz.sizeOf86 Tryz.zeroValue86 rfl ⟨rfl, rfl, trivial⟩ (by decide) ?_
   intro v72 w68 S69 hl71
   have hn73 := S69.new 0 rfl
   have S70 := S14.add hl71 hn73
   refine ⟨.of_le hl71, ?_⟩
   have hyb74 : ∀ c, (vec EPL v72 []).fp c → yng w5 c := fun c hc => Nat.le_trans hy19.size (hn73.bd c hc).1
   have hy75 : Keep (yng w5) w5 w68 := hy19.trans (Keep.of_le hl71)
   refine e_next [6] (by kernel_rfl) (by kernel_rfl) ⟨⟨_, _, rfl, rfl, ?_⟩, trivial⟩
   refine s_append EPL (S70.lend 6 rfl) 0 rfl rfl rfl rfl (vec_rd (S70.at 3 rfl)) Tryz.underlying81 info86 rfl rfl rfl (by unfold maxLen; rw [List.length_nil]; omega) (by rw [List.length_nil]; show _ * 32 ≤ _; omega) ?_
   intro v80 w76 S77 hk79 hv81
   have S78 := S70.back 6 rfl S77
   have hyb82 : ∀ c, (vec EPL v80 []).fp c → yng w5 c := fun c hc => (S77.bd 0 _ rfl c hc).2.elim (fun h => Nat.le_trans hy75.size h) (hyb18 c)
   refine ⟨hk79.mono fun c _ hc => hyb18 c hc, ?_⟩
   have hy83 : Keep (yng w5) w5 w76 := hy75.trans (hk79.mono fun c _ hc => hyb18 c hc)
   refine e_next [17] (by kernel_rfl) (by kernel_rfl) ⟨⟨_, _, rfl, rfl, ?_⟩, trivial⟩
   refine s_append EPL (S78.lend 6 rfl) 0 rfl rfl rfl rfl (vec_rd (S78.at 7 rfl)) Tryz.underlying81 info86 rfl rfl rfl (by unfold maxLen; simp; omega) (by show _ * 32 ≤ _; simp; omega) ?_
   intro v88 w84 S85 hk87 hv89
   have S86 := S78.back 6 rfl S85
   have hyb90 : ∀ c, (vec EPL v88 []).fp c → yng w5 c := fun c hc => (S85.bd 0 _ rfl c hc).2.elim (fun h => Nat.le_trans hy83.size h) (hyb82 c)
   refine ⟨hk87.mono fun c _ hc => hyb82 c hc, ?_⟩
   have hy91 : Keep (yng w5) w5 w84 := hy83.trans (hk87.mono fun c _ hc => hyb82 c hc)
   refine e_exact 18 _ (by kernel_rfl) rfl rfl (by kernel_rfl) rfl (ex_x rfl (fun w1 h1 => x_nilCheck rfl)) ?_
   refine e_exact 19 _ (by kernel_rfl) rfl rfl (by kernel_rfl) rfl (ex_x rfl (fun w1 h1 => x_fieldAddr rfl Tryz.runUnderlying108 rfl Tryz.sizeOf81 (by decide))) ?_
   refine e_done (by kernel_rfl) ?_
   refine l_storeq (v := v88) S86 1 rfl rfl rfl rfl (Rd.one (vec_rd (S86.at 6 rfl))) Tryz.sizeOf81 (stV_lt (k := 1) (by decide)) stP_set ?_
   intro w92 S93 hk94
   refine l_nil ?_
   refine r_region ?_
   refine l_m rfl ?_
   refine l_buildSlice EB [] S93 rfl Tryz.runUnderlying106 Tryz.sizeOf4 Tryz.zeroValue4 rfl trivial (Nat.le_of_ble_eq_true rfl) ?_
   intro v98 w95 S96 hl97
   refine l_m rfl ?_
   refine l_x rfl (x_nilCheck rfl) ?_
   refine l_x rfl (x_fieldAddr rfl Tryz.runUnderlying108 rfl Tryz.sizeOf106 (by decide)) ?_
   refine l_x rfl (x_load rfl (ld_blk (S96.blk 1 rfl) Tryz.isAgg106 stE_get)) ?_
   refine l_append EB S96 8 rfl rfl rfl rfl (vec_rd (S96.at 4 rfl)) Tryz.underlying106 info4 rfl rfl rfl (by unfold maxLen; rw [List.length_nil]; omega) (by rw [List.length_nil]; show _ * 1 ≤ _; omega) ?_
   intro v102 w99 S100 hk101 hv103
   refine l_buildSlice EB [false] S100 rfl Tryz.runUnderlying106 Tryz.sizeOf4 Tryz.zeroValue4 rfl ⟨rfl, rfl, trivial⟩ (Nat.le_of_ble_eq_true rfl) ?_
   intro v107 w104 S105 hl106
   refine l_append EB S105 8 rfl rfl rfl rfl (vec_rd (S105.at 9 rfl)) Tryz.underlying106 info4 rfl rfl rfl (by unfold maxLen; simp; omega) (by show _ * 1 ≤ _; simp; omega) ?_
   intro v111 w108 S109 hk110 hv112
   refine l_x rfl (x_nilCheck rfl) ?_
   refine l_x rfl (x_fieldAddr rfl Tryz.runUnderlying108 rfl Tryz.sizeOf106 (by decide)) ?_
   refine l_storeq (v := v111) S109 1 rfl rfl rfl rfl (Rd.one (vec_rd (S109.at 8 rfl))) Tryz.sizeOf106 (stV_lt (k := 2) (by decide)) stE_set ?_
   intro w113 S114 hk115
   refine l_nil ?_
   refine r_inBlock ?_
   refine r_seq ?_
   refine r_region ?_
   refine l_a rfl ?_
   refine l_nil ?_
   refine r_ret (rs := [.tmp 4]) [_] Tryz.func136 rfl ⟨rfl, trivial⟩ ?_
   exact ⟨{ n with pv := v88, ev := v111 }, _, by rw [do_pledge hk (by omega)]; rfl, by rw [do_pledge hk (by omega)]; rfl, Own.stShut (A := []) (r := { r with ps := r.ps ++ [⟨a.1.id, a.1.frm, a.1.to, a.1.parts⟩], es := r.es ++ [false] }) (S114.pick (L' := [_, _, _, _, _]) [1, 2, 6, 8, 5] (by decide) rfl) hO.pledge⟩
  refine s_buildSlice EPL [(⟨a.1.id, a.1.frm, a.1.to, a.1.parts⟩ : Pl)] (Own.start (X := nob) w8) rfl Tryz.runUnderlying81 Tryz.sizeOf86 Tryz.zeroValue86 rfl ⟨rfl, rfl, trivial⟩ (by decide) ?_
  intro v120 w116 S117 hl119
  have hn121 := S117.new 0 rfl
  have S118 := S10.add hl119 hn121
  refine ⟨.of_le hl119, ?_⟩
  have hyb122 : ∀ c, (vec EPL v120 []).fp c → yng w5 c := fun c hc => Nat.le_trans hy11.size (hn121.bd c hc).1
  have hy123 : Keep (yng w5) w5 w116 := hy11.trans (Keep.of_le hl119)
  refine e_next [1] (by kernel_rfl) (by kernel_rfl) ⟨⟨_, _, rfl, rfl, ?_⟩, trivial⟩
  refine s_buildSlice EPL [] (Own.start (X := nob) w116) rfl Tryz.runUnderlying81 Tryz.sizeOf86 Tryz.zeroValue86 rfl trivial (by decide) ?_
  intro v128 w124 S125 hl127
  have hn129 := S125.new 0 rfl
  have S126 := S118.add hl127 hn129
  refine ⟨.of_le hl127, ?_⟩
  have hyb130 : ∀ c, (vec EPL v128 []).fp c → yng w5 c := fun c hc => Nat.le_trans hy123.size (hn129.bd c hc).1
  have hy131 : Keep (yng w5) w5 w124 := hy123.trans (Keep.of_le hl127)
  refine e_next [6] (by kernel_rfl) (by kernel_rfl) ⟨⟨_, _, rfl, rfl, ?_⟩, trivial⟩
  refine s_append EPL (S126.lend 7 rfl) 0 rfl rfl rfl rfl (vec_rd (S126.at 3 rfl)) Tryz.underlying81 info86 rfl rfl rfl (by unfold maxLen; rw [List.length_nil]; omega) (by rw [List.length_nil]; show _ * 32 ≤ _; omega) ?_
  intro v136 w132 S133 hk135 hv137
  have S134 := S126.back 7 rfl S133
  have hyb138 : ∀ c, (vec EPL v136 []).fp c → yng w5 c := fun c hc => (S133.bd 0 _ rfl c hc).2.elim (fun h => Nat.le_trans hy131.size h) (hyb130 c)
  refine ⟨hk135.mono fun c _ hc => hyb130 c hc, ?_⟩
  have hy139 : Keep (yng w5) w5 w132 := hy131.trans (hk135.mono fun c _ hc => hyb130 c hc)
  refine e_next [17] (by kernel_rfl) (by kernel_rfl) ⟨⟨_, _, rfl, rfl, ?_⟩, trivial⟩
  refine s_append EPL (S134.lend 7 rfl) 0 rfl rfl rfl rfl (vec_rd (S134.at 6 rfl)) Tryz.underlying81 info86 rfl rfl rfl (by unfold maxLen; simp; omega) (by show _ * 32 ≤ _; simp; omega) ?_
  intro v144 w140 S141 hk143 hv145
  have S142 := S134.back 7 rfl S141
  have hyb146 : ∀ c, (vec EPL v144 []).fp c → yng w5 c := fun c hc => (S141.bd 0 _ rfl c hc).2.elim (fun h => Nat.le_trans hy139.size h) (hyb138 c)
  refine ⟨hk143.mono fun c _ hc => hyb138 c hc, ?_⟩
  have hy147 : Keep (yng w5) w5 w140 := hy139.trans (hk143.mono fun c _ hc => hyb138 c hc)
  refine e_exact 18 _ (by kernel_rfl) rfl rfl (by kernel_rfl) rfl (ex_x rfl (fun w1 h1 => x_nilCheck rfl)) ?_
  refine e_exact 19 _ (by kernel_rfl) rfl rfl (by kernel_rfl) rfl (ex_x rfl (fun w1 h1 => x_fieldAddr rfl Tryz.runUnderlying108 rfl Tryz.sizeOf81 (by decide))) ?_
  refine e_done (by kernel_rfl) ?_
  refine l_storeq (v := v144) S142 1 rfl rfl rfl rfl (Rd.one (vec_rd (S142.at 7 rfl))) Tryz.sizeOf81 (stV_lt (k := 1) (by decide)) stP_set ?_
  intro w148 S149 hk150
  refine l_nil ?_
  refine r_region ?_
  refine l_m rfl ?_
  refine l_buildSlice EB [] S149 rfl Tryz.runUnderlying106 Tryz.sizeOf4 Tryz.zeroValue4 rfl trivial (Nat.le_of_ble_eq_true rfl) ?_
  intro v154 w151 S152 hl153
  refine l_m rfl ?_
  refine l_x rfl (x_nilCheck rfl) ?_
  refine l_x rfl (x_fieldAddr rfl Tryz.runUnderlying108 rfl Tryz.sizeOf106 (by decide)) ?_
  refine l_x rfl (x_load rfl (ld_blk (S152.blk 1 rfl) Tryz.isAgg106 stE_get)) ?_
  refine l_append EB S152 8 rfl rfl rfl rfl (vec_rd (S152.at 4 rfl)) Tryz.underlying106 info4 rfl rfl rfl (by unfold maxLen; rw [List.length_nil]; omega) (by rw [List.length_nil]; show _ * 1 ≤ _; omega) ?_
  intro v158 w155 S156 hk157 hv159
  refine l_buildSlice EB [false] S156 rfl Tryz.runUnderlying106 Tryz.sizeOf4 Tryz.zeroValue4 rfl ⟨rfl, rfl, trivial⟩ (Nat.le_of_ble_eq_true rfl) ?_
  intro v163 w160 S161 hl162
  refine l_append EB S161 8 rfl rfl rfl rfl (vec_rd (S161.at 9 rfl)) Tryz.underlying106 info4 rfl rfl rfl (by unfold maxLen; simp; omega) (by show _ * 1 ≤ _; simp; omega) ?_
  intro v167 w164 S165 hk166 hv168
  refine l_x rfl (x_nilCheck rfl) ?_
  refine l_x rfl (x_fieldAddr rfl Tryz.runUnderlying108 rfl Tryz.sizeOf106 (by decide)) ?_
  refine l_storeq (v := v167) S165 1 rfl rfl rfl rfl (Rd.one (vec_rd (S165.at 8 rfl))) Tryz.sizeOf106 (stV_lt (k := 2) (by decide)) stE_set ?_
  intro w169 S170 hk171
  refine l_nil ?_
  refine r_inBlock ?_
  refine r_seq ?_
  refine r_region ?_
  refine l_a rfl ?_
  refine l_nil ?_
  refine r_ret (rs := [.tmp 4]) [_] Tryz.func136 rfl ⟨rfl, trivial⟩ ?_
  exact ⟨{ n with pv := v144, ev := v167 }, _, by rw [do_pledge hk (by omega)]; rfl, by rw [do_pledge hk (by omega)]; rfl, Own.stShut (A := []) (r := { r with ps := r.ps ++ [⟨a.1.id, a.1.frm, a.1.to, a.1.parts⟩], es := r.es ++ [false] }) (S170.pick (L' := [_, _, _, _, _]) [1, 2, 7, 8, 5] (by decide) rfl) hO.pledge⟩
 omega

end Go.Proofs

namespace Go.Proofs
open Go Go.Vk Go.Vk.Flow

open Go.Vk.Deed

set_option maxHeartbeats 4000000 in
theorem c_rdo3 (b : Nat) (n : SNm) (m : Nat) (s : St) (hm : m ≤ 400) (l : List D) (a : Rw) (hf : formed a.1 = true) (hI : StI s l) (he : enters l ≤ 1000000000) (hl : l.length ≤ 400) (hN : NN s a.1.day) (hk : a.1.kind = 3) (w0 : World) (hA : SubR 3 w0 a)  (w : World) (S0 : Own (stF TS b n) w w [stS TS b n m s]) (h0 : Le w0 w) (hX : ∀ c, (stF TS b n) c → w0.heap.size ≤ c) :
  Cl Tryz.prog 136 #[.pointer (some ⟨b, 0, none⟩), .agg (encD a).toArray] w fun v w' => ∃ n' s', (do1 s a.1).getD s = s' ∧ v = .bool (do1 s a.1).isSome ∧ Own (stF TS b n) w w' [stS TS b n' (m + 1) s'] := by
 have hB := hI.stb he hl
 have hfm := formed_id hf
 have hh := heirs_facts (formed_heirs hf hk)
 have hfl := free_le1 hB (o := a.1.frm) (day := a.1.day)
 have hsp := sum_pos hh.2.2.2.2 (by omega)
 have hnf := heirs_not (formed_heirs hf hk)
 have hwl : (wholeS (free s a.1.frm a.1.day) a.1.shares).length = a.1.shares.length := whole_len
 refine fn_of_run (args := [_, _]) 207 Tryz.func136 rfl rfl rfl fun cs => ?_
 have S := S0
 refine r_seq ?_
 refine r_region ?_
 refine l_box S rfl rfl ?_
 intro b4 w1 S2 hl3
 refine l_a rfl ?_
 refine l_nil ?_
 refine r_seq ?_
 refine r_seq ?_
 refine r_region ?_
 refine l_x rfl (x_fieldAddr rfl Tryz.runUnderlying26 rfl Tryz.sizeOf5 (by decide)) ?_
 refine l_x rfl (x_load rfl (ld_blk (S2.blk 1 rfl) Tryz.isAgg5 rfl)) ?_
 refine l_nil ?_
 refine r_block ?_
 refine r_seq ?_
 refine r_region ?_
 refine l_x rfl (x_eql rfl rfl) ?_
 refine l_a rfl ?_
 refine l_nil ?_
 refine r_ifd rfl (fun hc11 => ?_) (fun hc11 => ?_)
 ·omega
 refine r_seq ?_
 refine r_region ?_
 refine l_x rfl (x_eql rfl rfl) ?_
 refine l_a rfl ?_
 refine l_nil ?_
 refine r_ifd rfl (fun hc51 => ?_) (fun hc51 => ?_)
 ·skip
  refine r_seq ?_
  refine r_region ?_
  refine l_m rfl ?_
  refine l_x rfl (x_fieldAddr rfl Tryz.runUnderlying26 rfl Tryz.sizeOf3 (by decide)) ?_
  refine l_x rfl (x_load rfl (ld_blk (S2.blk 1 rfl) Tryz.isAgg3 rfl)) ?_
  refine l_x rfl (x_fieldAddr rfl Tryz.runUnderlying26 rfl Tryz.sizeOf3 (by decide)) ?_
  refine l_x rfl (x_load rfl (ld_blk (S2.blk 1 rfl) Tryz.isAgg3 rfl)) ?_
  refine l_call [] [] [_, _, _] rfl rfl Tryz.call168 rfl (c_rfree b n m s hm a.1.frm a.1.day (by omega) hB hN.ld _ (S2.ro 0 rfl)) ?_
  rintro _ w5 ⟨rfl, hl7⟩
  have S6 := S2.step hl7
  refine l_a rfl ?_
  refine l_nil ?_
  refine r_seq ?_
  refine r_seq ?_
  refine r_region ?_
  refine l_m rfl ?_
  refine l_x rfl (x_lss rfl rfl) ?_
  refine l_nil ?_
  refine r_ifd rfl (fun hc60 => ?_) (fun hc60 => ?_)
  ·skip
   refine r_seq ?_
   refine r_region ?_
   refine l_a rfl ?_
   refine l_nil ?_
   refine r_ret (rs := [.tmp 4]) [_] Tryz.func136 rfl ⟨rfl, trivial⟩ ?_
   exact ⟨n, _, by rw [do_heirs0 hk (by omega)]; rfl, by rw [do_heirs0 hk (by omega)]; rfl, Own.stMono (A := []) (S6.take 1) (Nat.le_succ m)⟩
  have hp : 0 < free s a.1.frm a.1.day := by omega
  refine r_skip ?_
  refine r_seq ?_
  refine r_region ?_
  refine l_m rfl ?_
  refine l_x rfl (x_fieldAddr rfl Tryz.runUnderlying26 rfl Tryz.sizeOf24 (by decide)) ?_
  refine l_x rfl (x_load rfl (ld_blk (S6.blk 1 rfl) Tryz.isAgg24 rfl)) ?_
  refine l_call [] [] [_, _] rfl rfl Tryz.call169 rfl (c_rwhole a.1.shares _ (free s a.1.frm a.1.day) (by omega) (by omega) (fun x hx => by have := hh.2.2.2.2 x hx; omega) hsp _ (hA.2.le (S6.old h0 hX))) ?_
  rintro v648 w8 ⟨hN648, hl648⟩
  have S9 := S6.add hl648 hN648
  refine l_a rfl ?_
  refine l_nil ?_
  refine r_seq ?_
  refine r_seq ?_
  refine r_region ?_
  refine l_a rfl ?_
  refine l_nil ?_
  refine r_block ?_
  refine r_loop (G := Nat × SNm) (fun ⟨i, n1⟩ => a.1.heirs.length - i) (fun ⟨i, n1⟩ => [(0, .pointer (some ⟨b, 0, none⟩)), (3, .pointer (some ⟨b4, 0, none⟩)), (6, v648), (7, .int .i64 i)]) (fun ⟨i, n1⟩ w' => (i ≤ a.1.heirs.length) ∧ Own (stF TS b n) w w' [stS TS b n1 m (movesS a.1.frm (a.1.heirs.take i) ((wholeS (free s a.1.frm a.1.day) a.1.shares).take i) s), blk b4 (encD a) 26, vec EI v648 (wholeS (free s a.1.frm a.1.day) a.1.shares)]) (0, n) ⟨rfl, rfl, rfl, rfl, trivial⟩ ⟨Nat.zero_le _, S9⟩ ?_
  rintro ⟨i, n1⟩ ρ w1 ⟨hi, S1⟩ IH
  refine r_seq ?_
  refine r_seq ?_
  refine r_region ?_
  refine l_m rfl ?_
  refine l_x rfl (x_fieldAddr rfl Tryz.runUnderlying26 rfl Tryz.sizeOf24 (by decide)) ?_
  refine l_x rfl (x_load rfl (ld_blk (S1.blk 1 rfl) Tryz.isAgg24 rfl)) ?_
  refine l_x rfl (x_len (hA.1.le (S1.old h0 hX)) rfl Tryz.runUnderlying24) ?_
  refine l_x rfl (x_lss rfl rfl) ?_
  refine l_nil ?_
  refine r_ifd rfl (fun hc69 => ?_) (fun hc69 => ?_)
  ·skip
   obtain ⟨h, hh2⟩ : ∃ h, a.1.heirs[i]? = some h := ⟨_, List.getElem?_eq_getElem (by omega)⟩
   obtain ⟨k, hk2⟩ : ∃ k, (wholeS (free s a.1.frm a.1.day) a.1.shares)[i]? = some k := ⟨_, List.getElem?_eq_getElem (by omega)⟩
   have hI2 := hI.heirs he hl hf hk hp i
   have hms := moves_step (a := a.1.frm) (s := s) hh2 hk2
   refine r_skip ?_
   refine r_seq ?_
   refine r_block ?_
   refine r_drawR 12 Tryz.mixed (by kernel_rfl) ?_
   refine w_x rfl (fun w1 h1 => x_mv rfl) ?_
   refine w_x rfl (fun w1 h1 => x_fieldAddr rfl Tryz.runUnderlying26 rfl Tryz.sizeOf3 (by decide)) ?_
   refine w_x rfl (fun w1 h1 => x_load rfl (ld_blk ((S1.step h1).blk 1 rfl) Tryz.isAgg3 rfl)) ?_
   refine w_x rfl (fun w1 h1 => x_fieldAddr rfl Tryz.runUnderlying26 rfl Tryz.sizeOf24 (by decide)) ?_
   refine w_x rfl (fun w1 h1 => x_load rfl (ld_blk ((S1.step h1).blk 1 rfl) Tryz.isAgg24 rfl)) ?_
   refine w_x rfl (fun w1 h1 => x_mv rfl) ?_
   refine w_index EI rfl (hA.1.le (S1.old h0 hX)) rfl rfl Tryz.runUnderlying24 Tryz.sizeOf3 (by omega) hh2 ?_
   intro b10 o11 hat12 row13
   refine w_x rfl (fun w1 h1 => x_load rfl (ld_cell Tryz.isAgg3 ((row13.le h1) 0 _ rfl))) ?_
   refine w_x rfl (fun w1 h1 => x_mv rfl) ?_
   refine w_x rfl (fun w1 h1 => x_mv rfl) ?_
   refine w_index EI rfl (vec_rd (S1.at 2 rfl)) rfl rfl Tryz.runUnderlying24 Tryz.sizeOf3 (by omega) hk2 ?_
   intro b14 o15 hat16 row17
   refine w_x rfl (fun w1 h1 => x_load rfl (ld_cell Tryz.isAgg3 ((row17.le h1) 0 _ rfl))) ?_
   refine w_nil ?_
   intro w18 hl19
   have S20 := S1.step hl19
   refine l_call [] [] [_, _, _, _] rfl rfl Tryz.call170 rfl (c_rmove b n1 m (movesS a.1.frm (a.1.heirs.take i) ((wholeS (free s a.1.frm a.1.day) a.1.shares).take i) s) hm a.1.frm h k (enters l) hh.2.2.1 (hh.2.2.2.1 h (List.mem_of_getElem? hh2)) (fun e => hnf (e ▸ List.mem_of_getElem? hh2)) (hI2.stb he hl) hI2.bal (heirs_room hI he hl hf hk hp hk2) _ (S20.lend 0 rfl)) ?_
   rintro _ w21 ⟨nn23, hb24⟩
   have S22 := S20.back 0 rfl hb24
   refine l_nil ?_
   refine r_inBlock ?_
   refine r_region ?_
   refine l_m rfl ?_
   refine l_x rfl (x_add rfl rfl (by omega)) ?_
   refine l_a rfl ?_
   refine l_nil ?_
   exact IH (i + 1, nn23) _ _ (by dsimp only; omega) ⟨rfl, rfl, rfl, rfl, trivial⟩ ⟨by omega, (by rw [hms]; exact S22.take 3)⟩
  obtain rfl : i = a.1.heirs.length := by omega
  refine r_exit rfl ?_
  refine r_seq ?_
  refine r_region ?_
  refine l_a rfl ?_
  refine l_nil ?_
  refine r_ret (rs := [.tmp 4]) [_] Tryz.func136 rfl ⟨rfl, trivial⟩ ?_
  exact ⟨n1, movesS a.1.frm a.1.heirs (wholeS (free s a.1.frm a.1.day) a.1.shares) s, by rw [do_heirs hk (by omega)]; rfl, by rw [do_heirs hk (by omega)]; rfl, Own.stMono (A := []) (by have hS : Own _ _ _ [stS TS b n1 m (movesS a.1.frm (a.1.heirs.take a.1.heirs.length) ((wholeS (free s a.1.frm a.1.day) a.1.shares).take a.1.heirs.length) s)] := S1.take 1; rw [List.take_length, List.take_of_length_le (by rw [whole_len]; omega)] at hS; exact hS) (Nat.le_succ m)⟩
 omega

theorem idx_rng9 {α : Type} (p : α → Bool) (l : List α) : -1 ≤ idx p l := by
 by_cases h : idx p l = -1
 ·omega
 obtain ⟨i, a, h1, _⟩ := idx_pos h
 omega

set_option maxHeartbeats 4000000 in
theorem c_rdo6 (b : Nat) (n : SNm) (m : Nat) (s : St) (hm : m ≤ 400) (l : List D) (a : Rw) (hf : formed a.1 = true) (hI : StI s l) (he : enters l ≤ 1000000000) (hl : l.length ≤ 400) (hN : NN s a.1.day) (hk : a.1.kind = 6) (w : World) (S0 : Own (stF TS b n) w w [stS TS b n m s]) :
  Cl Tryz.prog 136 #[.pointer (some ⟨b, 0, none⟩), .agg (encD a).toArray] w fun v w' => ∃ n' s', (do1 s a.1).getD s = s' ∧ v = .bool (do1 s a.1).isSome ∧ Own (stF TS b n) w w' [stS TS b n' (m + 1) s'] := by
 have hB := hI.stb he hl
 have hfm := formed_id hf
 refine fn_of_run (args := [_, _]) 207 Tryz.func136 rfl rfl rfl fun cs => ?_
 have S := S0
 refine r_seq ?_
 refine r_region ?_
 refine l_box S rfl rfl ?_
 intro b4 w1 S2 hl3
 refine l_a rfl ?_
 refine l_nil ?_
 refine r_seq ?_
 refine r_seq ?_
 refine r_region ?_
 refine l_x rfl (x_fieldAddr rfl Tryz.runUnderlying26 rfl Tryz.sizeOf5 (by decide)) ?_
 refine l_x rfl (x_load rfl (ld_blk (S2.blk 1 rfl) Tryz.isAgg5 rfl)) ?_
 refine l_nil ?_
 refine r_block ?_
 refine r_seq ?_
 refine r_region ?_
 refine l_x rfl (x_eql rfl rfl) ?_
 refine l_a rfl ?_
 refine l_nil ?_
 refine r_ifd rfl (fun hc11 => ?_) (fun hc11 => ?_)
 ·omega
 refine r_seq ?_
 refine r_region ?_
 refine l_x rfl (x_eql rfl rfl) ?_
 refine l_a rfl ?_
 refine l_nil ?_
 refine r_ifd rfl (fun hc51 => ?_) (fun hc51 => ?_)
 ·omega
 refine r_seq ?_
 refine r_seq ?_
 refine r_region ?_
 refine l_x rfl (x_eql rfl rfl) ?_
 refine l_a rfl ?_
 refine l_nil ?_
 refine r_ifd rfl (fun hc85 => ?_) (fun hc85 => ?_)
 ·skip
  refine r_skip ?_
  refine r_ifd rfl (fun hc85 => ?_) (fun hc85 => ?_)
  ·skip
   refine r_seq ?_
   obtain ⟨r, hO, So⟩ := Own.stOpen (A := [_]) (S2.pick (L' := [_, _]) [1, 0] (by decide) rfl)
   refine r_region ?_
   refine l_m rfl ?_
   refine l_x rfl (x_fieldAddr rfl Tryz.runUnderlying26 rfl Tryz.sizeOf3 (by decide)) ?_
   refine l_x rfl (x_load rfl (ld_blk (So.blk 0 rfl) Tryz.isAgg3 rfl)) ?_
   refine l_call [] [] [_, _] rfl rfl Tryz.call171 rfl (c_rpledge b n m s r hm a.1.of _ ⟨hO, (Own.close (So.pick (L' := [_, _, _, _, _]) [1, 2, 3, 4, 5] (by decide) rfl)).ro 0 rfl⟩) ?_
   rintro _ w5 ⟨rfl, hl7⟩
   have S6 := So.step hl7
   refine l_a rfl ?_
   refine l_nil ?_
   refine r_seq ?_
   refine r_seq ?_
   refine r_region ?_
   refine l_m rfl ?_
   refine l_x rfl (x_lss rfl rfl) ?_
   refine l_nil ?_
   refine r_ifd rfl (fun hc93 => ?_) (fun hc93 => ?_)
   ·skip
    have hpn : plOf s a.1.of = none := pl_none hO (by have := idx_rng9 (PP a.1.of) (r.ps.zip r.es); omega)
    refine r_seq ?_
    refine r_region ?_
    refine l_a rfl ?_
    refine l_nil ?_
    refine r_ret (rs := [.tmp 4]) [_] Tryz.func136 rfl ⟨rfl, trivial⟩ ?_
    exact ⟨n, s, by rw [do_redeem0 hk hpn]; rfl, by rw [do_redeem0 hk hpn]; rfl, Own.stMono (A := []) (Own.stShut (A := []) (r := r) (S6.pick (L' := [_, _, _, _, _]) [1, 2, 3, 4, 5] (by decide) rfl) hO) (Nat.le_succ m)⟩
   obtain ⟨i, p, hix, hpi, hei, hpd, hpl⟩ := pl_some (id := a.1.of) hO (by omega)
   have hop := hO.pl
   have hoe := hO.e
   refine r_skip ?_
   refine r_seq ?_
   refine r_region ?_
   refine l_m rfl ?_
   refine l_x rfl (x_nilCheck rfl) ?_
   refine l_x rfl (x_fieldAddr rfl Tryz.runUnderlying108 rfl Tryz.sizeOf106 (by decide)) ?_
   refine l_x rfl (x_load rfl (ld_blk (S6.blk 1 rfl) Tryz.isAgg106 stE_get)) ?_
   refine l_m rfl ?_
   refine l_index EB rfl (vec_rd (S6.at 4 rfl)) rfl rfl Tryz.runUnderlying106 Tryz.sizeOf4 (by omega) (by rw [hix, Int.toNat_natCast]; exact hei) ?_
   intro b8 o9 hat10 row11
   refine l_storevb (f := 0) S6 4 rfl rfl hat10 rfl rfl Tryz.sizeOf4 (by rw [hix, Int.toNat_natCast]; exact hei) (by decide) rfl ?_
   intro w12 S13 hk14
   refine l_nil ?_
   refine r_seq ?_
   refine r_seq ?_
   refine r_region ?_
   refine l_x rfl (x_fieldAddr rfl Tryz.runUnderlying26 rfl Tryz.sizeOf5 (by decide)) ?_
   refine l_x rfl (x_load rfl (ld_blk (S13.blk 0 rfl) Tryz.isAgg5 rfl)) ?_
   refine l_x rfl (x_eql rfl rfl) ?_
   refine l_nil ?_
   refine r_ifd rfl (fun hc102 => ?_) (fun hc102 => ?_)
   ·omega
   refine r_skip ?_
   refine r_seq ?_
   refine r_region ?_
   refine l_a rfl ?_
   refine l_nil ?_
   refine r_ret (rs := [.tmp 4]) [_] Tryz.func136 rfl ⟨rfl, trivial⟩ ?_
   exact ⟨n, redeemS s a.1.of, by rw [do_redeem hk hpl]; rfl, by rw [do_redeem hk hpl]; rfl, Own.stMono (A := []) (Own.stShut (A := []) (r := { r with es := r.es.set i true }) (by have hS := (S13.pick (L' := [_, _, _, _, _]) [1, 2, 3, 4, 5] (by decide) rfl); rw [hix, Int.toNat_natCast] at hS; exact hS) (by rw [← hpd]; exact hO.redeem hpi hei hI.pn)) (Nat.le_succ m)⟩
  omega
 omega

theorem pp_apart {s : St} {l : List D} (hI : StI s l) (hfl : ∀ y ∈ l, formed y = true) {p : Pl} (hp : p ∈ s.pledges) : (1 ≤ p.frm ∧ p.frm ≤ 40) ∧ (1 ≤ p.to ∧ p.to ≤ 40) ∧ p.frm ≠ p.to := by
 obtain ⟨_, h2, h3, y, hy, hk, rfl⟩ := hI.pp p hp
 exact ⟨h2, h3, (formed_two (hfl y hy) (.inr (.inr hk))).2.2.1⟩

set_option maxHeartbeats 4000000 in
theorem c_rdo7 (b : Nat) (n : SNm) (m : Nat) (s : St) (hm : m ≤ 400) (l : List D) (a : Rw) (hf : formed a.1 = true) (hI : StI s l) (he : enters l ≤ 1000000000) (hl : l.length ≤ 400) (hN : NN s a.1.day) (hfl : ∀ y ∈ l, formed y = true) (hk : a.1.kind = 7) (w : World) (S0 : Own (stF TS b n) w w [stS TS b n m s]) :
  Cl Tryz.prog 136 #[.pointer (some ⟨b, 0, none⟩), .agg (encD a).toArray] w fun v w' => ∃ n' s', (do1 s a.1).getD s = s' ∧ v = .bool (do1 s a.1).isSome ∧ Own (stF TS b n) w w' [stS TS b n' (m + 1) s'] := by
 have hB := hI.stb he hl
 have hfm := formed_id hf
 refine fn_of_run (args := [_, _]) 207 Tryz.func136 rfl rfl rfl fun cs => ?_
 have S := S0
 refine r_seq ?_
 refine r_region ?_
 refine l_box S rfl rfl ?_
 intro b4 w1 S2 hl3
 refine l_a rfl ?_
 refine l_nil ?_
 refine r_seq ?_
 refine r_seq ?_
 refine r_region ?_
 refine l_x rfl (x_fieldAddr rfl Tryz.runUnderlying26 rfl Tryz.sizeOf5 (by decide)) ?_
 refine l_x rfl (x_load rfl (ld_blk (S2.blk 1 rfl) Tryz.isAgg5 rfl)) ?_
 refine l_nil ?_
 refine r_block ?_
 refine r_seq ?_
 refine r_region ?_
 refine l_x rfl (x_eql rfl rfl) ?_
 refine l_a rfl ?_
 refine l_nil ?_
 refine r_ifd rfl (fun hc11 => ?_) (fun hc11 => ?_)
 ·omega
 refine r_seq ?_
 refine r_region ?_
 refine l_x rfl (x_eql rfl rfl) ?_
 refine l_a rfl ?_
 refine l_nil ?_
 refine r_ifd rfl (fun hc51 => ?_) (fun hc51 => ?_)
 ·omega
 refine r_seq ?_
 refine r_seq ?_
 refine r_region ?_
 refine l_x rfl (x_eql rfl rfl) ?_
 refine l_a rfl ?_
 refine l_nil ?_
 refine r_ifd rfl (fun hc85 => ?_) (fun hc85 => ?_)
 ·omega
 refine r_region ?_
 refine l_x rfl (x_eql rfl rfl) ?_
 refine l_a rfl ?_
 refine l_nil ?_
 refine r_ifd rfl (fun hc85 => ?_) (fun hc85 => ?_)
 ·skip
  refine r_seq ?_
  obtain ⟨r, hO, So⟩ := Own.stOpen (A := [_]) (S2.pick (L' := [_, _]) [1, 0] (by decide) rfl)
  refine r_region ?_
  refine l_m rfl ?_
  refine l_x rfl (x_fieldAddr rfl Tryz.runUnderlying26 rfl Tryz.sizeOf3 (by decide)) ?_
  refine l_x rfl (x_load rfl (ld_blk (So.blk 0 rfl) Tryz.isAgg3 rfl)) ?_
  refine l_call [] [] [_, _] rfl rfl Tryz.call171 rfl (c_rpledge b n m s r hm a.1.of _ ⟨hO, (Own.close (So.pick (L' := [_, _, _, _, _]) [1, 2, 3, 4, 5] (by decide) rfl)).ro 0 rfl⟩) ?_
  rintro _ w5 ⟨rfl, hl7⟩
  have S6 := So.step hl7
  refine l_a rfl ?_
  refine l_nil ?_
  refine r_seq ?_
  refine r_seq ?_
  refine r_region ?_
  refine l_m rfl ?_
  refine l_x rfl (x_lss rfl rfl) ?_
  refine l_nil ?_
  refine r_ifd rfl (fun hc93 => ?_) (fun hc93 => ?_)
  ·skip
   have hpn : plOf s a.1.of = none := pl_none hO (by have := idx_rng9 (PP a.1.of) (r.ps.zip r.es); omega)
   refine r_seq ?_
   refine r_region ?_
   refine l_a rfl ?_
   refine l_nil ?_
   refine r_ret (rs := [.tmp 4]) [_] Tryz.func136 rfl ⟨rfl, trivial⟩ ?_
   exact ⟨n, s, by rw [do_seize0 hk hpn]; rfl, by rw [do_seize0 hk hpn]; rfl, Own.stMono (A := []) (Own.stShut (A := []) (r := r) (S6.pick (L' := [_, _, _, _, _]) [1, 2, 3, 4, 5] (by decide) rfl) hO) (Nat.le_succ m)⟩
  obtain ⟨i, p, hix, hpi, hei, hpd, hpl⟩ := pl_some (id := a.1.of) hO (by omega)
  have hop := hO.pl
  have hoe := hO.e
  have hpp := pp_apart hI hfl (plOf_mem hpl).1
  refine r_skip ?_
  refine r_seq ?_
  refine r_region ?_
  refine l_m rfl ?_
  refine l_x rfl (x_nilCheck rfl) ?_
  refine l_x rfl (x_fieldAddr rfl Tryz.runUnderlying108 rfl Tryz.sizeOf106 (by decide)) ?_
  refine l_x rfl (x_load rfl (ld_blk (S6.blk 1 rfl) Tryz.isAgg106 stE_get)) ?_
  refine l_m rfl ?_
  refine l_index EB rfl (vec_rd (S6.at 4 rfl)) rfl rfl Tryz.runUnderlying106 Tryz.sizeOf4 (by omega) (by rw [hix, Int.toNat_natCast]; exact hei) ?_
  intro b8 o9 hat10 row11
  refine l_storevb (f := 0) S6 4 rfl rfl hat10 rfl rfl Tryz.sizeOf4 (by rw [hix, Int.toNat_natCast]; exact hei) (by decide) rfl ?_
  intro w12 S13 hk14
  refine l_nil ?_
  refine r_seq ?_
  refine r_seq ?_
  refine r_region ?_
  refine l_x rfl (x_fieldAddr rfl Tryz.runUnderlying26 rfl Tryz.sizeOf5 (by decide)) ?_
  refine l_x rfl (x_load rfl (ld_blk (S13.blk 0 rfl) Tryz.isAgg5 rfl)) ?_
  refine l_x rfl (x_eql rfl rfl) ?_
  refine l_nil ?_
  refine r_ifd rfl (fun hc102 => ?_) (fun hc102 => ?_)
  ·skip
   refine r_drawR 25 Tryz.mixed (by kernel_rfl) ?_
   refine w_x rfl (fun w1 h1 => x_mv rfl) ?_
   refine w_x rfl (fun w1 h1 => x_mv rfl) ?_
   refine w_x rfl (fun w1 h1 => x_nilCheck rfl) ?_
   refine w_x rfl (fun w1 h1 => x_fieldAddr rfl Tryz.runUnderlying108 rfl Tryz.sizeOf81 (by decide)) ?_
   refine w_x rfl (fun w1 h1 => x_load rfl (ld_blk ((S13.step h1).blk 1 rfl) Tryz.isAgg81 stP_get)) ?_
   refine w_x rfl (fun w1 h1 => x_mv rfl) ?_
   refine w_index EPL rfl (vec_rd (S13.at 3 rfl)) rfl rfl Tryz.runUnderlying81 Tryz.sizeOf86 (by omega) (by rw [hix, Int.toNat_natCast]; exact hpi) ?_
   intro b15 o16 hat17 row18
   refine w_x rfl (fun w1 h1 => x_fieldAddr rfl Tryz.runUnderlying86 rfl Tryz.sizeOf3 (by decide)) ?_
   refine w_x rfl (fun w1 h1 => x_load rfl (ld_cell Tryz.isAgg3 ((row18.le h1) 1 _ rfl))) ?_
   refine w_x rfl (fun w1 h1 => x_mv rfl) ?_
   refine w_x rfl (fun w1 h1 => x_nilCheck rfl) ?_
   refine w_x rfl (fun w1 h1 => x_fieldAddr rfl Tryz.runUnderlying108 rfl Tryz.sizeOf81 (by decide)) ?_
   refine w_x rfl (fun w1 h1 => x_load rfl (ld_blk ((S13.step h1).blk 1 rfl) Tryz.isAgg81 stP_get)) ?_
   refine w_x rfl (fun w1 h1 => x_mv rfl) ?_
   refine w_index EPL rfl (vec_rd (S13.at 3 rfl)) rfl rfl Tryz.runUnderlying81 Tryz.sizeOf86 (by omega) (by rw [hix, Int.toNat_natCast]; exact hpi) ?_
   intro b19 o20 hat21 row22
   refine w_x rfl (fun w1 h1 => x_fieldAddr rfl Tryz.runUnderlying86 rfl Tryz.sizeOf3 (by decide)) ?_
   refine w_x rfl (fun w1 h1 => x_load rfl (ld_cell Tryz.isAgg3 ((row22.le h1) 2 _ rfl))) ?_
   refine w_x rfl (fun w1 h1 => x_mv rfl) ?_
   refine w_x rfl (fun w1 h1 => x_nilCheck rfl) ?_
   refine w_x rfl (fun w1 h1 => x_fieldAddr rfl Tryz.runUnderlying108 rfl Tryz.sizeOf81 (by decide)) ?_
   refine w_x rfl (fun w1 h1 => x_load rfl (ld_blk ((S13.step h1).blk 1 rfl) Tryz.isAgg81 stP_get)) ?_
   refine w_x rfl (fun w1 h1 => x_mv rfl) ?_
   refine w_index EPL rfl (vec_rd (S13.at 3 rfl)) rfl rfl Tryz.runUnderlying81 Tryz.sizeOf86 (by omega) (by rw [hix, Int.toNat_natCast]; exact hpi) ?_
   intro b23 o24 hat25 row26
   refine w_x rfl (fun w1 h1 => x_fieldAddr rfl Tryz.runUnderlying86 rfl Tryz.sizeOf3 (by decide)) ?_
   refine w_x rfl (fun w1 h1 => x_load rfl (ld_cell Tryz.isAgg3 ((row26.le h1) 3 _ rfl))) ?_
   refine w_nil ?_
   intro w27 hl28
   have S29 := S13.step hl28
   have Sh30 := Own.stShut (A := []) (t := TS) (b := b) (n := n) (m := m) (s := redeemS s a.1.of) (r := { r with es := r.es.set i true }) (by have hS := (S29.pick (L' := [_, _, _, _, _]) [1, 2, 3, 4, 5] (by decide) rfl); rw [hix, Int.toNat_natCast] at hS; exact hS) (by rw [← hpd]; exact hO.redeem hpi hei hI.pn)
   refine l_call [] [] [_, _, _, _] rfl rfl Tryz.call170 rfl (c_rmove b n m (redeemS s a.1.of) hm p.frm p.to p.parts (enters l) hpp.1 hpp.2.1 hpp.2.2 ((hI.redeem a.1.of).stb he hl) (hI.redeem a.1.of).bal (seize_room hI hN hpl) _ (Sh30.lend 0 rfl)) ?_
   rintro _ w31 ⟨nn32, hb33⟩
   have S34 := Sh30.back 0 rfl hb33
   refine l_nil ?_
   refine r_seq ?_
   refine r_region ?_
   refine l_a rfl ?_
   refine l_nil ?_
   refine r_ret (rs := [.tmp 4]) [_] Tryz.func136 rfl ⟨rfl, trivial⟩ ?_
   exact ⟨nn32, _, by rw [do_seize hk hpl]; rfl, by rw [do_seize hk hpl]; rfl, Own.stMono (A := []) S34 (Nat.le_succ m)⟩
  omega
 omega

end Go.Proofs

namespace Go.Proofs
open Go Go.Vk Go.Vk.Flow

open Go.Vk.Deed
def isZ : Value → Bool
 | .int .i64 a => decide (a = 0)
 | _ => false
def isN : Value → Bool
 | .slice none 0 0 => true
 | _ => false
def endZ : List Value → Bool
 | [a, b, c, d] => isN a && isN b && isN c && isN d
 | _ => false
def goZ : List Value → Nat → Bool
 | [], _ => false
 | v :: l, 0 => endZ (v :: l)
 | v :: l, n + 1 => isZ v && goZ l n
theorem isZ_eq {v : Value} (h : isZ v = true) : v = .int .i64 0 := by
 unfold isZ at h
 split at h
 ·rw [of_decide_eq_true h]
 cases h
theorem isN_eq {v : Value} (h : isN v = true) : v = .slice none 0 0 := by
 unfold isN at h
 split at h
 ·rfl
 cases h
theorem goZ_eq : ∀ (l : List Value) (n : Nat), goZ l n = true → l = List.replicate n (.int .i64 0) ++ [.slice none 0 0, .slice none 0 0, .slice none 0 0, .slice none 0 0] := by
 intro l
 induction l with
 | nil => intro n h; simp [goZ] at h
 | cons v l ih =>
  intro n h
  cases n with
  | zero =>
   have h2 : endZ (v :: l) = true := h
   unfold endZ at h2
   split at h2
   ·next a b c d e =>
    rw [e]
    simp only [Bool.and_eq_true] at h2
    rw [isN_eq h2.1.1.1, isN_eq h2.1.1.2, isN_eq h2.1.2, isN_eq h2.2]; rfl
   cases h2
  | succ n =>
   have h2 : (isZ v && goZ l n) = true := h
   rw [Bool.and_eq_true] at h2
   rw [isZ_eq h2.1, ih n h2.2, List.replicate_succ]; rfl
theorem goZ108 : goZ Tryz.zeroCells108.toList 16482 = true := by kernel_rfl
theorem zcS : Tryz.zeroCells108 = (stC (fun _ => 0) (fun _ => 0) (.slice none 0 0) (.slice none 0 0) (.slice none 0 0) (.slice none 0 0)).toArray := by
 have h := goZ_eq _ _ goZ108
 have e : Tryz.zeroCells108 = (Tryz.zeroCells108.toList).toArray := rfl
 rw [e, h, stC, tab_zero, tab_zero, ← List.append_assoc, List.replicate_append_replicate]

theorem x_zeroSt {E : Operand → Value} {ty : TypeId} {w : World} : X Tryz.prog E (.build 108 #[]) ty w (.agg (stC (fun _ => 0) (fun _ => 0) (.slice none 0 0) (.slice none 0 0) (.slice none 0 0) (.slice none 0 0)).toArray) w :=
 x_buildS (parts := []) (ss := [41, 16441, 1, 1, 1, 1]) Tryz.zeroValue108 zcS Tryz.runUnderlying108 ⟨Tryz.sizeOf104, Tryz.sizeOf105, Tryz.sizeOf78, Tryz.sizeOf81, Tryz.sizeOf106, Tryz.sizeOf24, trivial⟩ fill_nil
theorem st_start {m : Nat} : StOk m RS.nil St.nil := ⟨fun _ _ => rfl, fun _ _ _ _ => rfl, rfl, rfl, rfl, Nat.zero_le _, rfl⟩

theorem c_rdo (b : Nat) (n : SNm) (m : Nat) (s : St) (hm : m ≤ 400) (l : List D) (a : Rw) (hf : formed a.1 = true) (hI : StI s l) (he : enters l ≤ 1000000000) (hl : l.length ≤ 400) (hN : NN s a.1.day) (hfl : ∀ y ∈ l, formed y = true) (hk8 : a.1.kind ≠ 8) (w0 : World) (hA : SubR 3 w0 a) (w : World) (S0 : Own (stF TS b n) w w [stS TS b n m s]) (h0 : Le w0 w) (hX : ∀ c, stF TS b n c → w0.heap.size ≤ c) :
  Cl Tryz.prog 136 #[.pointer (some ⟨b, 0, none⟩), .agg (encD a).toArray] w fun v w' => ∃ n' s', (do1 s a.1).getD s = s' ∧ v = .bool (do1 s a.1).isSome ∧ Own (stF TS b n) w w' [stS TS b n' (m + 1) s'] := by
 rcases formed_kinds hf with k | k | k | k | k | k | k | k
 ·exact c_rdo1 b n m s hm l a hf hI he hl hN k w S0
 ·exact c_rdo2 b n m s hm l a hf hI he hl hN k w S0
 ·exact c_rdo3 b n m s hm l a hf hI he hl hN k w0 hA w S0 h0 hX
 ·exact c_rdo4 b n m s hm l a hf hI he hl hN k w S0
 ·exact c_rdo5 b n m s hm l a hf hI he hl hN k w S0
 ·exact c_rdo6 b n m s hm l a hf hI he hl hN k w S0
 ·exact c_rdo7 b n m s hm l a hf hI he hl hN hfl k w S0
 exact absurd k hk8

theorem take_one9 {l : List D} {i : Nat} {a : D} (h : l[i]? = some a) : l.take (i + 1) = l.take i ++ [a] := by rw [List.take_add_one, h]; rfl
theorem filter_out {l : List D} {a : D} {p : D → Bool} (h : p a = false) : (l ++ [a]).filter p = l.filter p := by rw [List.filter_append, List.filter_cons_of_neg (by simp [h])]; simp
theorem filter_in {l : List D} {a : D} {p : D → Bool} (h : p a = true) : (l ++ [a]).filter p = l.filter p ++ [a] := by rw [List.filter_append, List.filter_cons_of_pos h]; rfl
theorem try_idle9 {s s1 : St} {x : D} (h : (do1 s x).getD s = s1) (hn : (!(do1 s x).isSome) = true) : try1 s x = idleS s1 x.id := by
 unfold try1
 cases hd : do1 s x with
 | none => rw [hd] at h; subst h; rfl
 | some s' => rw [hd] at hn; cases hn
theorem try_done9 {s s1 : St} {x : D} (h : (do1 s x).getD s = s1) (hn : (!(do1 s x).isSome) = false) : try1 s x = s1 := by
 unfold try1
 cases hd : do1 s x with
 | none => rw [hd] at hn; cases hn
 | some s' => rw [hd] at h; subst h; rfl
theorem idle_len9 {s s1 : St} {x : D} {l : List D} (h : (do1 s x).getD s = s1) (hn : (!(do1 s x).isSome) = true) (hI : StI s l) : s1.idle.length ≤ l.length := by
 cases hd : do1 s x with
 | none => rw [hd] at h; subst h; exact hI.il
 | some s' => rw [hd] at hn; cases hn
theorem play_take9 {l : List D} (h : PlayL l) (i : Nat) : PlayL (l.take i) := by
 have e := List.take_append_drop i l
 rw [← e] at h
 exact h.pre
theorem mem_take_day {l : List D} {i : Nat} {a : D} {p : D → Bool} (hs : l.Pairwise fun a b => a.day ≤ b.day) (ha : l[i]? = some a) : ∀ y ∈ (l.take i).filter p, y.day ≤ a.day := by
 intro y hy
 obtain ⟨j, hj⟩ := List.getElem?_of_mem (List.mem_filter.1 hy).1
 rw [List.getElem?_take] at hj
 split at hj
 ·next g =>
  obtain ⟨h1, h2⟩ := List.getElem?_eq_some_iff.1 hj
  obtain ⟨h3, h4⟩ := List.getElem?_eq_some_iff.1 ha
  have := List.pairwise_iff_getElem.1 hs j i h1 h3 g
  rwa [h2, h4] at this
 cases hj

set_option maxHeartbeats 4000000 in
theorem c_rplay (rs : List Rw) (vl : Value) (day : Int) (hP : PlayL (dl rs)) (hs : (dl rs).Pairwise fun a b => a.day ≤ b.day) (w : World) (hD : DsR 26 3 w vl rs) :
  Cl Tryz.prog 87 #[vl, .int .i64 day] w fun v w' => ∃ b n m, m ≤ 400 ∧ v = .pointer (some ⟨b, 0, none⟩) ∧ Own nob w w' [stS TS b n m (doneD (dl rs) day)] := by
 have hml := hD.lm
 have hpl := hP.len
 rw [dl_len] at hpl
 refine fn_of_run (args := [_, _]) 48 Tryz.func87 rfl rfl rfl fun cs => ?_
 have S := Own.start (X := nob) w
 refine r_seq ?_
 refine r_region ?_
 refine l_a rfl ?_
 refine l_nil ?_
 refine r_seq ?_
 refine r_region ?_
 refine l_x rfl x_zeroSt ?_
 refine l_box S rfl rfl ?_
 intro b1 w2 S3 hl4
 have Sz := Own.stShut (A := []) (t := TS) (b := b1) (n := (⟨.slice none 0 0, .slice none 0 0, .slice none 0 0, .slice none 0 0⟩ : SNm)) (m := 0) (s := St.nil) (r := RS.nil) (((S3.nilvec (E := ELZ)).nilvec (E := EPL)).nilvec (E := EB) |>.nilvec (E := EI)) st_start
 refine l_a rfl ?_
 refine l_nil ?_
 refine r_seq ?_
 refine r_seq ?_
 refine r_region ?_
 refine l_a rfl ?_
 refine l_nil ?_
 refine r_block ?_
 refine r_loop (G := Nat × SNm) (fun ⟨i, n1⟩ => rs.length - i) (fun ⟨i, n1⟩ => [(0, vl), (1, .int .i64 day), (5, .pointer (some ⟨b1, 0, none⟩)), (6, .int .i64 i)]) (fun ⟨i, n1⟩ w' => (i ≤ rs.length) ∧ Own nob w w' [stS TS b1 n1 i (play (((dl rs).take i).filter fun x => decide (x.day ≤ day)))]) (0, (⟨.slice none 0 0, .slice none 0 0, .slice none 0 0, .slice none 0 0⟩ : SNm)) ⟨rfl, rfl, rfl, rfl, trivial⟩ ⟨Nat.zero_le _, Sz⟩ ?_
 rintro ⟨i, n1⟩ ρ w1 ⟨hi, S1⟩ IH
 refine r_seq ?_
 refine r_seq ?_
 refine r_region ?_
 refine l_m rfl ?_
 refine l_m rfl ?_
 refine l_x rfl (x_len (hD.rd.le S1.le) rfl Tryz.runUnderlying23) ?_
 refine l_x rfl (x_lss rfl rfl) ?_
 refine l_nil ?_
 refine r_ifd rfl (fun hc12 => ?_) (fun hc12 => ?_)
 ·skip
  obtain ⟨a, ha⟩ : ∃ a, rs[i]? = some a := ⟨_, List.getElem?_eq_getElem (by omega)⟩
  have ham := List.mem_of_getElem? ha
  have hPi : PlayL (((dl rs).take i).filter fun x => decide (x.day ≤ day)) := (play_take9 hP i).filter _
  have hsi : (((dl rs).take i).filter fun x => decide (x.day ≤ day)).Pairwise (fun a b => a.day ≤ b.day) := (hs.sublist (List.take_sublist _ _)).filter _
  have hli : (((dl rs).take i).filter fun x => decide (x.day ≤ day)).length ≤ i := Nat.le_trans (List.length_filter_le _ _) (by rw [List.length_take]; omega)
  refine r_skip ?_
  refine r_seq ?_
  refine r_block ?_
  refine r_seq ?_
  refine r_region ?_
  refine l_m rfl ?_
  refine l_m rfl ?_
  refine l_index ED rfl (hD.rd.le S1.le) rfl rfl Tryz.runUnderlying23 Tryz.sizeOf26 (by omega) ha ?_
  intro b5 o6 hat7 row8
  refine l_x rfl (x_fieldAddr rfl Tryz.runUnderlying26 rfl Tryz.sizeOf3 (by decide)) ?_
  refine l_x rfl (x_load rfl (ld_cell Tryz.isAgg3 (row8 1 _ rfl))) ?_
  refine l_m rfl ?_
  refine l_x rfl (x_leq rfl rfl) ?_
  refine l_m rfl ?_
  refine l_splitd (d := 22) rfl (fun hg22 => ?_) (fun hg22 => ?_)
  ·skip
   refine l_m rfl ?_
   refine l_m rfl ?_
   refine l_m rfl ?_
   refine l_index ED rfl (hD.rd.le S1.le) rfl rfl Tryz.runUnderlying23 Tryz.sizeOf26 (by omega) ha ?_
   intro b9 o10 hat11 row12
   refine l_x rfl (x_load rfl (ld_row Tryz.isAgg26 Tryz.sizeOf26 rfl row12)) ?_
   refine l_call [] [] [_, _] rfl rfl Tryz.call136 rfl (c_rdo b1 n1 i (play (((dl rs).take i).filter fun x => decide (x.day ≤ day))) (by omega) (((dl rs).take i).filter fun x => decide (x.day ≤ day)) a (hP.f _ (mem_dl ham)) (play_inv _ rfl hPi) hPi.e hPi.len (play_nn _ rfl hPi hsi _ (mem_take_day hs (dl_get ha))) hPi.f (hP.k _ (mem_dl ham)) w (hD.sub a ham) _ (S1.lend 0 rfl) (S1.le) (fun c hc => ((S1.bd 0 _ rfl c hc).2).resolve_right id)) ?_
   rintro _ w13 ⟨nn15, s1, hs1, rfl, hb16⟩
   have S14 := S1.back 0 rfl hb16
   refine l_x rfl (x_not rfl) ?_
   refine l_x rfl (x_pick_t rfl rfl) ?_
   refine l_nil ?_
   refine r_if rfl (fun hc30 => ?_) (fun hc30 => ?_)
   ·skip
    obtain ⟨r, hO, So⟩ := Own.stOpen (A := []) S14
    have hio := hO.i
    have hil := idle_len9 hs1 hc30 (play_inv _ rfl hPi)
    refine r_drawE 16 (yng w13) Tryz.mixed (by kernel_rfl) ?_
    intro w17 hl18
    have S19 := So.step hl18
    have hy20 : Keep (yng w13) w13 w17 := .of_le hl18
    refine e_exact 0 _ (by kernel_rfl) rfl rfl (by kernel_rfl) rfl (ex_x rfl (fun w1 h1 => x_mv rfl)) ?_
    refine e_exact 2 _ (by kernel_rfl) rfl rfl (by kernel_rfl) rfl (ex_x rfl (fun w1 h1 => x_mv rfl)) ?_
    refine e_exact 3 _ (by kernel_rfl) rfl rfl (by kernel_rfl) rfl (ex_x rfl (fun w1 h1 => x_nilCheck rfl)) ?_
    refine e_exact 4 _ (by kernel_rfl) rfl rfl (by kernel_rfl) rfl (ex_x rfl (fun w1 h1 => x_fieldAddr rfl Tryz.runUnderlying108 rfl Tryz.sizeOf24 (by decide))) ?_
    refine e_exact 5 _ (by kernel_rfl) rfl rfl (by kernel_rfl) rfl (ex_x rfl (fun w1 h1 => x_load rfl (ld_blk ((So.yng (hy20.trans h1)).blk 0 rfl) Tryz.isAgg24 stI_get))) ?_
    refine e_exact 7 _ (by kernel_rfl) rfl rfl (by kernel_rfl) rfl (ex_x rfl (fun w1 h1 => x_mv rfl)) ?_
    refine e_exact 8 _ (by kernel_rfl) rfl rfl (by kernel_rfl) rfl (ex_x rfl (fun w1 h1 => x_mv rfl)) ?_
    refine e_index ED 9 (by kernel_rfl) rfl rfl (by kernel_rfl) rfl rfl (hD.rd.le S19.le) rfl rfl Tryz.runUnderlying23 Tryz.sizeOf26 (by omega) ha ?_
    intro b21 o22 hat23
    refine e_exact 10 _ (by kernel_rfl) rfl rfl (by kernel_rfl) rfl (ex_x rfl (fun w1 h1 => x_fieldAddr rfl Tryz.runUnderlying26 rfl Tryz.sizeOf3 (by decide))) ?_
    refine e_exact 11 _ (by kernel_rfl) rfl rfl (by kernel_rfl) rfl (ex_x rfl (fun w1 h1 => x_load rfl (ld_cell Tryz.isAgg3 ((rd_row (hD.rd.le (So.yng (hy20.trans h1)).le) hat23 ha) 0 _ rfl)))) ?_
    refine e_next [1, 12] (by kernel_rfl) (by kernel_rfl) ⟨⟨_, _, rfl, rfl, ?_⟩, ⟨_, _, rfl, rfl, ?_⟩, trivial⟩
    ·skip
     refine s_buildSlice EI [] (Own.start (X := nob) w17) rfl Tryz.runUnderlying24 Tryz.sizeOf3 Tryz.zeroValue3 rfl trivial (by decide) ?_
     intro v28 w24 S25 hl27
     have hn29 := S25.new 0 rfl
     have S26 := S19.add hl27 hn29
     refine ⟨.of_le hl27, ?_⟩
     have hyb30 : ∀ c, (vec EI v28 []).fp c → yng w13 c := fun c hc => Nat.le_trans hy20.size (hn29.bd c hc).1
     have hy31 : Keep (yng w13) w13 w24 := hy20.trans (Keep.of_le hl27)
     refine e_next [6, 12] (by kernel_rfl) (by kernel_rfl) ⟨⟨_, _, rfl, rfl, ?_⟩, ⟨_, _, rfl, rfl, ?_⟩, trivial⟩
     ·skip
      refine s_append EI (S26.lend 5 rfl) 0 rfl rfl rfl rfl (vec_rd (S26.at 4 rfl)) Tryz.underlying24 info3 rfl rfl rfl (by rw [List.length_nil, hio]; unfold maxLen; omega) (by rw [List.length_nil, hio]; show _ * 8 ≤ _; omega) ?_
      intro v36 w32 S33 hk35 hv37
      have S34 := S26.back 5 rfl S33
      have hyb38 : ∀ c, (vec EI v36 []).fp c → yng w13 c := fun c hc => (S33.bd 0 _ rfl c hc).2.elim (fun h => Nat.le_trans hy31.size h) (hyb30 c)
      refine ⟨hk35.mono fun c _ hc => hyb30 c hc, ?_⟩
      have hy39 : Keep (yng w13) w13 w32 := hy31.trans (hk35.mono fun c _ hc => hyb30 c hc)
      refine e_next [12] (by kernel_rfl) (by kernel_rfl) ⟨⟨_, _, rfl, rfl, ?_⟩, trivial⟩
      refine s_buildSlice EI [a.1.id] (Own.start (X := nob) w32) rfl Tryz.runUnderlying24 Tryz.sizeOf3 Tryz.zeroValue3 rfl ⟨rfl, rfl, trivial⟩ (by decide) ?_
      intro v44 w40 S41 hl43
      have hn45 := S41.new 0 rfl
      have S42 := S34.add hl43 hn45
      refine ⟨.of_le hl43, ?_⟩
      have hyb46 : ∀ c, (vec EI v44 []).fp c → yng w13 c := fun c hc => Nat.le_trans hy39.size (hn45.bd c hc).1
      have hy47 : Keep (yng w13) w13 w40 := hy39.trans (Keep.of_le hl43)
      refine e_next [13] (by kernel_rfl) (by kernel_rfl) ⟨⟨_, _, rfl, rfl, ?_⟩, trivial⟩
      refine s_append EI (S42.lend 5 rfl) 0 rfl rfl rfl rfl (vec_rd (S42.at 6 rfl)) Tryz.underlying24 info3 rfl rfl rfl (by rw [List.length_append, List.length_nil, hio]; unfold maxLen; simp; omega) (by rw [List.length_append, List.length_nil, hio]; show _ * 8 ≤ _; simp; omega) ?_
      intro v52 w48 S49 hk51 hv53
      have S50 := S42.back 5 rfl S49
      have hyb54 : ∀ c, (vec EI v52 []).fp c → yng w13 c := fun c hc => (S49.bd 0 _ rfl c hc).2.elim (fun h => Nat.le_trans hy47.size h) (hyb38 c)
      refine ⟨hk51.mono fun c _ hc => hyb38 c hc, ?_⟩
      have hy55 : Keep (yng w13) w13 w48 := hy47.trans (hk51.mono fun c _ hc => hyb38 c hc)
      refine e_exact 14 _ (by kernel_rfl) rfl rfl (by kernel_rfl) rfl (ex_x rfl (fun w1 h1 => x_nilCheck rfl)) ?_
      refine e_exact 15 _ (by kernel_rfl) rfl rfl (by kernel_rfl) rfl (ex_x rfl (fun w1 h1 => x_fieldAddr rfl Tryz.runUnderlying108 rfl Tryz.sizeOf24 (by decide))) ?_
      refine e_done (by kernel_rfl) ?_
      refine l_storeq (v := v52) S50 0 rfl rfl rfl rfl (Rd.one (vec_rd (S50.at 5 rfl))) Tryz.sizeOf24 (stV_lt (k := 3) (by decide)) stI_set ?_
      intro w56 S57 hk58
      refine l_nil ?_
      refine r_inBlock ?_
      refine r_region ?_
      refine l_m rfl ?_
      refine l_x rfl (x_add rfl rfl (by omega)) ?_
      refine l_a rfl ?_
      refine l_nil ?_
      exact IH (i + 1, { nn15 with iv := v52 }) _ _ (by dsimp only; omega) ⟨rfl, rfl, rfl, rfl, trivial⟩ ⟨by omega, (by rw [take_one9 (dl_get ha), filter_in (decide_eq_true hg22), play_snoc, try_idle9 hs1 hc30]; exact Own.stShut (A := []) (n := { nn15 with iv := v52 }) (r := { r with is := r.is ++ [a.1.id] }) (S57.pick (L' := [_, _, _, _, _]) [0, 1, 2, 3, 5] (by decide) rfl) hO.idle)⟩
     refine s_buildSlice EI [a.1.id] (Own.start (X := nob) w24) rfl Tryz.runUnderlying24 Tryz.sizeOf3 Tryz.zeroValue3 rfl ⟨rfl, rfl, trivial⟩ (by decide) ?_
     intro v63 w59 S60 hl62
     have hn64 := S60.new 0 rfl
     have S61 := S26.add hl62 hn64
     refine ⟨.of_le hl62, ?_⟩
     have hyb65 : ∀ c, (vec EI v63 []).fp c → yng w13 c := fun c hc => Nat.le_trans hy31.size (hn64.bd c hc).1
     have hy66 : Keep (yng w13) w13 w59 := hy31.trans (Keep.of_le hl62)
     refine e_next [6] (by kernel_rfl) (by kernel_rfl) ⟨⟨_, _, rfl, rfl, ?_⟩, trivial⟩
     refine s_append EI (S61.lend 5 rfl) 0 rfl rfl rfl rfl (vec_rd (S61.at 4 rfl)) Tryz.underlying24 info3 rfl rfl rfl (by rw [List.length_nil, hio]; unfold maxLen; omega) (by rw [List.length_nil, hio]; show _ * 8 ≤ _; omega) ?_
     intro v71 w67 S68 hk70 hv72
     have S69 := S61.back 5 rfl S68
     have hyb73 : ∀ c, (vec EI v71 []).fp c → yng w13 c := fun c hc => (S68.bd 0 _ rfl c hc).2.elim (fun h => Nat.le_trans hy66.size h) (hyb30 c)
     refine ⟨hk70.mono fun c _ hc => hyb30 c hc, ?_⟩
     have hy74 : Keep (yng w13) w13 w67 := hy66.trans (hk70.mono fun c _ hc => hyb30 c hc)
     refine e_next [13] (by kernel_rfl) (by kernel_rfl) ⟨⟨_, _, rfl, rfl, ?_⟩, trivial⟩
     refine s_append EI (S69.lend 5 rfl) 0 rfl rfl rfl rfl (vec_rd (S69.at 6 rfl)) Tryz.underlying24 info3 rfl rfl rfl (by rw [List.length_append, List.length_nil, hio]; unfold maxLen; simp; omega) (by rw [List.length_append, List.length_nil, hio]; show _ * 8 ≤ _; simp; omega) ?_
     intro v79 w75 S76 hk78 hv80
     have S77 := S69.back 5 rfl S76
     have hyb81 : ∀ c, (vec EI v79 []).fp c → yng w13 c := fun c hc => (S76.bd 0 _ rfl c hc).2.elim (fun h => Nat.le_trans hy74.size h) (hyb73 c)
     refine ⟨hk78.mono fun c _ hc => hyb73 c hc, ?_⟩
     have hy82 : Keep (yng w13) w13 w75 := hy74.trans (hk78.mono fun c _ hc => hyb73 c hc)
     refine e_exact 14 _ (by kernel_rfl) rfl rfl (by kernel_rfl) rfl (ex_x rfl (fun w1 h1 => x_nilCheck rfl)) ?_
     refine e_exact 15 _ (by kernel_rfl) rfl rfl (by kernel_rfl) rfl (ex_x rfl (fun w1 h1 => x_fieldAddr rfl Tryz.runUnderlying108 rfl Tryz.sizeOf24 (by decide))) ?_
     refine e_done (by kernel_rfl) ?_
     refine l_storeq (v := v79) S77 0 rfl rfl rfl rfl (Rd.one (vec_rd (S77.at 5 rfl))) Tryz.sizeOf24 (stV_lt (k := 3) (by decide)) stI_set ?_
     intro w83 S84 hk85
     refine l_nil ?_
     refine r_inBlock ?_
     refine r_region ?_
     refine l_m rfl ?_
     refine l_x rfl (x_add rfl rfl (by omega)) ?_
     refine l_a rfl ?_
     refine l_nil ?_
     exact IH (i + 1, { nn15 with iv := v79 }) _ _ (by dsimp only; omega) ⟨rfl, rfl, rfl, rfl, trivial⟩ ⟨by omega, (by rw [take_one9 (dl_get ha), filter_in (decide_eq_true hg22), play_snoc, try_idle9 hs1 hc30]; exact Own.stShut (A := []) (n := { nn15 with iv := v79 }) (r := { r with is := r.is ++ [a.1.id] }) (S84.pick (L' := [_, _, _, _, _]) [0, 1, 2, 3, 5] (by decide) rfl) hO.idle)⟩
    refine s_buildSlice EI [a.1.id] (Own.start (X := nob) w17) rfl Tryz.runUnderlying24 Tryz.sizeOf3 Tryz.zeroValue3 rfl ⟨rfl, rfl, trivial⟩ (by decide) ?_
    intro v90 w86 S87 hl89
    have hn91 := S87.new 0 rfl
    have S88 := S19.add hl89 hn91
    refine ⟨.of_le hl89, ?_⟩
    have hyb92 : ∀ c, (vec EI v90 []).fp c → yng w13 c := fun c hc => Nat.le_trans hy20.size (hn91.bd c hc).1
    have hy93 : Keep (yng w13) w13 w86 := hy20.trans (Keep.of_le hl89)
    refine e_next [1] (by kernel_rfl) (by kernel_rfl) ⟨⟨_, _, rfl, rfl, ?_⟩, trivial⟩
    refine s_buildSlice EI [] (Own.start (X := nob) w86) rfl Tryz.runUnderlying24 Tryz.sizeOf3 Tryz.zeroValue3 rfl trivial (by decide) ?_
    intro v98 w94 S95 hl97
    have hn99 := S95.new 0 rfl
    have S96 := S88.add hl97 hn99
    refine ⟨.of_le hl97, ?_⟩
    have hyb100 : ∀ c, (vec EI v98 []).fp c → yng w13 c := fun c hc => Nat.le_trans hy93.size (hn99.bd c hc).1
    have hy101 : Keep (yng w13) w13 w94 := hy93.trans (Keep.of_le hl97)
    refine e_next [6] (by kernel_rfl) (by kernel_rfl) ⟨⟨_, _, rfl, rfl, ?_⟩, trivial⟩
    refine s_append EI (S96.lend 6 rfl) 0 rfl rfl rfl rfl (vec_rd (S96.at 4 rfl)) Tryz.underlying24 info3 rfl rfl rfl (by rw [List.length_nil, hio]; unfold maxLen; omega) (by rw [List.length_nil, hio]; show _ * 8 ≤ _; omega) ?_
    intro v106 w102 S103 hk105 hv107
    have S104 := S96.back 6 rfl S103
    have hyb108 : ∀ c, (vec EI v106 []).fp c → yng w13 c := fun c hc => (S103.bd 0 _ rfl c hc).2.elim (fun h => Nat.le_trans hy101.size h) (hyb100 c)
    refine ⟨hk105.mono fun c _ hc => hyb100 c hc, ?_⟩
    have hy109 : Keep (yng w13) w13 w102 := hy101.trans (hk105.mono fun c _ hc => hyb100 c hc)
    refine e_next [13] (by kernel_rfl) (by kernel_rfl) ⟨⟨_, _, rfl, rfl, ?_⟩, trivial⟩
    refine s_append EI (S104.lend 6 rfl) 0 rfl rfl rfl rfl (vec_rd (S104.at 5 rfl)) Tryz.underlying24 info3 rfl rfl rfl (by rw [List.length_append, List.length_nil, hio]; unfold maxLen; simp; omega) (by rw [List.length_append, List.length_nil, hio]; show _ * 8 ≤ _; simp; omega) ?_
    intro v114 w110 S111 hk113 hv115
    have S112 := S104.back 6 rfl S111
    have hyb116 : ∀ c, (vec EI v114 []).fp c → yng w13 c := fun c hc => (S111.bd 0 _ rfl c hc).2.elim (fun h => Nat.le_trans hy109.size h) (hyb108 c)
    refine ⟨hk113.mono fun c _ hc => hyb108 c hc, ?_⟩
    have hy117 : Keep (yng w13) w13 w110 := hy109.trans (hk113.mono fun c _ hc => hyb108 c hc)
    refine e_exact 14 _ (by kernel_rfl) rfl rfl (by kernel_rfl) rfl (ex_x rfl (fun w1 h1 => x_nilCheck rfl)) ?_
    refine e_exact 15 _ (by kernel_rfl) rfl rfl (by kernel_rfl) rfl (ex_x rfl (fun w1 h1 => x_fieldAddr rfl Tryz.runUnderlying108 rfl Tryz.sizeOf24 (by decide))) ?_
    refine e_done (by kernel_rfl) ?_
    refine l_storeq (v := v114) S112 0 rfl rfl rfl rfl (Rd.one (vec_rd (S112.at 6 rfl))) Tryz.sizeOf24 (stV_lt (k := 3) (by decide)) stI_set ?_
    intro w118 S119 hk120
    refine l_nil ?_
    refine r_inBlock ?_
    refine r_region ?_
    refine l_m rfl ?_
    refine l_x rfl (x_add rfl rfl (by omega)) ?_
    refine l_a rfl ?_
    refine l_nil ?_
    exact IH (i + 1, { nn15 with iv := v114 }) _ _ (by dsimp only; omega) ⟨rfl, rfl, rfl, rfl, trivial⟩ ⟨by omega, (by rw [take_one9 (dl_get ha), filter_in (decide_eq_true hg22), play_snoc, try_idle9 hs1 hc30]; exact Own.stShut (A := []) (n := { nn15 with iv := v114 }) (r := { r with is := r.is ++ [a.1.id] }) (S119.pick (L' := [_, _, _, _, _]) [0, 1, 2, 3, 6] (by decide) rfl) hO.idle)⟩
   refine r_skip ?_
   refine r_inBlock ?_
   refine r_region ?_
   refine l_m rfl ?_
   refine l_x rfl (x_add rfl rfl (by omega)) ?_
   refine l_a rfl ?_
   refine l_nil ?_
   exact IH (i + 1, nn15) _ _ (by dsimp only; omega) ⟨rfl, rfl, rfl, rfl, trivial⟩ ⟨by omega, (by rw [take_one9 (dl_get ha), filter_in (decide_eq_true hg22), play_snoc, try_done9 hs1 hc30]; exact S14.take 1)⟩
  refine l_pass rfl ?_
  refine l_pass rfl ?_
  refine l_pass rfl ?_
  refine l_pass rfl ?_
  refine l_pass rfl ?_
  refine l_pass rfl ?_
  refine l_pass rfl ?_
  refine l_x rfl (x_pick_f rfl rfl) ?_
  refine l_nil ?_
  refine r_false rfl ?_
  refine r_skip ?_
  refine r_inBlock ?_
  refine r_region ?_
  refine l_m rfl ?_
  refine l_x rfl (x_add rfl rfl (by omega)) ?_
  refine l_a rfl ?_
  refine l_nil ?_
  exact IH (i + 1, n1) _ _ (by dsimp only; omega) ⟨rfl, rfl, rfl, rfl, trivial⟩ ⟨by omega, (by rw [take_one9 (dl_get ha), filter_out (decide_eq_false hg22)]; exact Own.stMono (A := []) (S1.take 1) (Nat.le_succ i))⟩
 obtain rfl : i = rs.length := by omega
 refine r_exit rfl ?_
 refine r_seq ?_
 refine r_region ?_
 refine l_m rfl ?_
 refine l_a rfl ?_
 refine l_nil ?_
 refine r_ret (rs := [.tmp 4]) [_] Tryz.func87 rfl ⟨rfl, trivial⟩ ?_
 exact ⟨b1, n1, rs.length, hpl, rfl, by have hS := S1.take 1; rw [show (play (((dl rs).take rs.length).filter fun x => decide (x.day ≤ day))) = doneD (dl rs) day by rw [← dl_len, List.take_length]; rfl] at hS; exact hS⟩

end Go.Proofs

namespace Go.Proofs
open Go Go.Vk Go.Vk.Flow

open Go.Vk.Deed

theorem c_rright (rs : List Rw) (vl : Value) (w : World) (hD : DsR 26 3 w vl rs) :
  Cl Tryz.prog 88 #[vl] w fun v w' => v = .bool (rightD (dl rs)) ∧ Le w w' := by
 refine fn_of_run (args := [_]) 12 Tryz.func88 rfl rfl rfl fun cs => ?_
 have S := Own.start (X := nob) w
 refine r_seq ?_
 refine r_region ?_
 refine l_a rfl ?_
 refine l_nil ?_
 refine r_seq ?_
 refine r_region ?_
 refine l_m rfl ?_
 refine l_call [] [] [_] rfl rfl Tryz.call22 rfl (c_rCheck rs _ _ (hD.le S.le)) ?_
 rintro _ w1 ⟨rfl, hl3⟩
 have S2 := S.step hl3
 refine l_m rfl ?_
 refine l_x rfl (x_extract rfl rfl) ?_
 refine l_x rfl (x_extract rfl rfl) ?_
 refine l_a rfl ?_
 refine l_a rfl ?_
 refine l_nil ?_
 refine r_seq ?_
 refine r_region ?_
 refine l_m rfl ?_
 refine l_x rfl (x_eql rfl rfl) ?_
 refine l_a rfl ?_
 refine l_nil ?_
 refine r_ret (rs := [.tmp 2]) [_] Tryz.func88 rfl ⟨rfl, trivial⟩ ?_
 exact ⟨congrArg Value.bool (by unfold rightD; apply decE; omega), S2.le⟩

set_option maxHeartbeats 4000000 in
theorem c_rcounts (rs : List Rw) (vl : Value) (a : Rw) (known : Int) (w : World) (hD : DsR 26 3 w vl rs) (hA : SubR 3 w a) :
  Cl Tryz.prog 115 #[vl, .agg (encD a).toArray, .int .i64 known] w fun v w' => v = .bool (counts (dl rs) known a.1) ∧ Le w w' := by
 have hml := hD.lm
 refine fn_of_run (args := [_, _, _]) 48 Tryz.func115 rfl rfl rfl fun cs => ?_
 have S := Own.start (X := nob) w
 refine r_seq ?_
 refine r_region ?_
 refine l_box S rfl rfl ?_
 intro b4 w1 S2 hl3
 refine l_a rfl ?_
 refine l_nil ?_
 refine r_seq ?_
 refine r_seq ?_
 refine r_region ?_
 refine l_x rfl (x_fieldAddr rfl Tryz.runUnderlying26 rfl Tryz.sizeOf5 (by decide)) ?_
 refine l_x rfl (x_load rfl (ld_blk (S2.blk 0 rfl) Tryz.isAgg5 rfl)) ?_
 refine l_x rfl (x_eql rfl rfl) ?_
 refine l_m rfl ?_
 refine l_splitd (d := 11) rfl (fun hg11 => ?_) (fun hg11 => ?_)
 ·skip
  refine l_pass rfl ?_
  refine l_pass rfl ?_
  refine l_pass rfl ?_
  refine l_pass rfl ?_
  refine l_x rfl (x_pick_t rfl rfl) ?_
  refine l_nil ?_
  refine r_true rfl ?_
  refine r_seq ?_
  refine r_region ?_
  refine l_a rfl ?_
  refine l_nil ?_
  refine r_ret (rs := [.tmp 6]) [_] Tryz.func115 rfl ⟨rfl, trivial⟩ ?_
  exact ⟨congrArg Value.bool (by unfold counts; rw [decide_eq_false (by omega), Bool.false_and]), S2.le⟩
 refine l_x rfl (x_fieldAddr rfl Tryz.runUnderlying26 rfl Tryz.sizeOf3 (by decide)) ?_
 refine l_x rfl (x_load rfl (ld_blk (S2.blk 0 rfl) Tryz.isAgg3 rfl)) ?_
 refine l_m rfl ?_
 refine l_x rfl (x_gtr rfl rfl) ?_
 refine l_x rfl (x_pick_f rfl rfl) ?_
 refine l_nil ?_
 refine r_ifd rfl (fun hc16 => ?_) (fun hc16 => ?_)
 ·skip
  refine r_seq ?_
  refine r_region ?_
  refine l_a rfl ?_
  refine l_nil ?_
  refine r_ret (rs := [.tmp 6]) [_] Tryz.func115 rfl ⟨rfl, trivial⟩ ?_
  exact ⟨congrArg Value.bool (by unfold counts; rw [decide_eq_false (by omega), Bool.false_and]), S2.le⟩
 refine r_skip ?_
 refine r_seq ?_
 refine r_seq ?_
 refine r_region ?_
 refine l_a rfl ?_
 refine l_nil ?_
 refine r_block ?_
 refine r_loop (G := Nat) (fun i => rs.length - i) (fun i => [(0, vl), (2, .int .i64 known), (4, .pointer (some ⟨b4, 0, none⟩)), (7, .int .i64 i)]) (fun i w' => (i ≤ rs.length) ∧ (∀ y ∈ rs.take i, (fun y : Rw => decide (y.1.kind = 8 ∧ y.1.known ≤ known ∧ y.1.of = a.1.id)) y = false) ∧ Own nob w w' [blk b4 (encD a) 26]) 0 ⟨rfl, rfl, rfl, rfl, trivial⟩ ⟨Nat.zero_le _, by simp, (S2.take 1)⟩ ?_
 rintro i ρ w1 ⟨hi, hno, S1⟩ IH
 refine r_seq ?_
 refine r_seq ?_
 refine r_region ?_
 refine l_m rfl ?_
 refine l_m rfl ?_
 refine l_x rfl (x_len (hD.rd.le S1.le) rfl Tryz.runUnderlying23) ?_
 refine l_x rfl (x_lss rfl rfl) ?_
 refine l_nil ?_
 refine r_ifd rfl (fun hc20 => ?_) (fun hc20 => ?_)
 ·skip
  obtain ⟨z, hz⟩ : ∃ y, rs[i]? = some y := ⟨_, List.getElem?_eq_getElem (by omega)⟩
  refine r_skip ?_
  refine r_seq ?_
  refine r_block ?_
  refine r_seq ?_
  refine r_drawR 25 Tryz.mixed (by kernel_rfl) ?_
  refine w_x rfl (fun w1 h1 => x_mv rfl) ?_
  refine w_x rfl (fun w1 h1 => x_mv rfl) ?_
  refine w_index ED rfl (hD.rd.le S1.le) rfl rfl Tryz.runUnderlying23 Tryz.sizeOf26 (by omega) hz ?_
  intro b5 o6 hat7 row8
  refine w_x rfl (fun w1 h1 => x_fieldAddr rfl Tryz.runUnderlying26 rfl Tryz.sizeOf5 (by decide)) ?_
  refine w_x rfl (fun w1 h1 => x_load rfl (ld_cell Tryz.isAgg5 ((row8.le h1) 3 _ rfl))) ?_
  refine w_x rfl (fun w1 h1 => x_eql rfl rfl) ?_
  refine w_x rfl (fun w1 h1 => x_mv rfl) ?_
  refine w_splitd (d := 29) rfl (fun hg29 => ?_) (fun hg29 => ?_)
  ·skip
   refine w_x rfl (fun w1 h1 => x_mv rfl) ?_
   refine w_x rfl (fun w1 h1 => x_mv rfl) ?_
   refine w_index ED rfl (hD.rd.le S1.le) rfl rfl Tryz.runUnderlying23 Tryz.sizeOf26 (by omega) hz ?_
   intro b9 o10 hat11 row12
   refine w_x rfl (fun w1 h1 => x_fieldAddr rfl Tryz.runUnderlying26 rfl Tryz.sizeOf3 (by decide)) ?_
   refine w_x rfl (fun w1 h1 => x_load rfl (ld_cell Tryz.isAgg3 ((row12.le h1) 8 _ rfl))) ?_
   refine w_x rfl (fun w1 h1 => x_fieldAddr rfl Tryz.runUnderlying26 rfl Tryz.sizeOf3 (by decide)) ?_
   refine w_x rfl (fun w1 h1 => x_load rfl (ld_blk ((S1.step h1).blk 0 rfl) Tryz.isAgg3 rfl)) ?_
   refine w_x rfl (fun w1 h1 => x_eql rfl rfl) ?_
   refine w_x rfl (fun w1 h1 => x_pick_t rfl rfl) ?_
   refine w_x rfl (fun w1 h1 => x_mv rfl) ?_
   refine w_splitd (d := 39) rfl (fun hg39 => ?_) (fun hg39 => ?_)
   ·skip
    refine w_x rfl (fun w1 h1 => x_mv rfl) ?_
    refine w_x rfl (fun w1 h1 => x_mv rfl) ?_
    refine w_index ED rfl (hD.rd.le S1.le) rfl rfl Tryz.runUnderlying23 Tryz.sizeOf26 (by omega) hz ?_
    intro b13 o14 hat15 row16
    refine w_x rfl (fun w1 h1 => x_fieldAddr rfl Tryz.runUnderlying26 rfl Tryz.sizeOf3 (by decide)) ?_
    refine w_x rfl (fun w1 h1 => x_load rfl (ld_cell Tryz.isAgg3 ((row16.le h1) 2 _ rfl))) ?_
    refine w_x rfl (fun w1 h1 => x_mv rfl) ?_
    refine w_x rfl (fun w1 h1 => x_leq rfl rfl) ?_
    refine w_x rfl (fun w1 h1 => x_pick_t rfl rfl) ?_
    refine w_nil ?_
    intro w17 hl18
    have S19 := S1.step hl18
    refine l_nil ?_
    refine r_ifd rfl (fun hc47 => ?_) (fun hc47 => ?_)
    ·skip
     refine r_seq ?_
     refine r_region ?_
     refine l_a rfl ?_
     refine l_nil ?_
     refine r_ret (rs := [.tmp 6]) [_] Tryz.func115 rfl ⟨rfl, trivial⟩ ?_
     exact ⟨congrArg Value.bool (by unfold counts; rw [voided_yes (dl_get hz) ⟨hg29, hc47, hg39⟩, Bool.not_true, Bool.and_false]), S19.le⟩
    refine r_skip ?_
    refine r_inBlock ?_
    refine r_region ?_
    refine l_m rfl ?_
    refine l_x rfl (x_add rfl rfl (by omega)) ?_
    refine l_a rfl ?_
    refine l_nil ?_
    exact IH (i + 1) _ _ (by omega) ⟨rfl, rfl, rfl, rfl, trivial⟩ ⟨by omega, ixd_step hno hz (decide_eq_false (by intro h; omega)), (S19.take 1)⟩
   refine w_pass rfl ?_
   refine w_pass rfl ?_
   refine w_pass rfl ?_
   refine w_pass rfl ?_
   refine w_pass rfl ?_
   refine w_pass rfl ?_
   refine w_pass rfl ?_
   refine w_x rfl (fun w1 h1 => x_pick_f rfl rfl) ?_
   refine w_nil ?_
   intro w20 hl21
   have S22 := S1.step hl21
   refine l_nil ?_
   refine r_false rfl ?_
   refine r_skip ?_
   refine r_inBlock ?_
   refine r_region ?_
   refine l_m rfl ?_
   refine l_x rfl (x_add rfl rfl (by omega)) ?_
   refine l_a rfl ?_
   refine l_nil ?_
   exact IH (i + 1) _ _ (by omega) ⟨rfl, rfl, rfl, rfl, trivial⟩ ⟨by omega, ixd_step hno hz (decide_eq_false (by intro h; exact hg39 h.2.2)), (S22.take 1)⟩
  refine w_pass rfl ?_
  refine w_pass rfl ?_
  refine w_pass rfl ?_
  refine w_pass rfl ?_
  refine w_pass rfl ?_
  refine w_pass rfl ?_
  refine w_pass rfl ?_
  refine w_pass rfl ?_
  refine w_x rfl (fun w1 h1 => x_pick_f rfl rfl) ?_
  refine w_x rfl (fun w1 h1 => x_mv rfl) ?_
  refine w_pass rfl ?_
  refine w_pass rfl ?_
  refine w_pass rfl ?_
  refine w_pass rfl ?_
  refine w_pass rfl ?_
  refine w_pass rfl ?_
  refine w_pass rfl ?_
  refine w_x rfl (fun w1 h1 => x_pick_f rfl rfl) ?_
  refine w_nil ?_
  intro w23 hl24
  have S25 := S1.step hl24
  refine l_nil ?_
  refine r_false rfl ?_
  refine r_skip ?_
  refine r_inBlock ?_
  refine r_region ?_
  refine l_m rfl ?_
  refine l_x rfl (x_add rfl rfl (by omega)) ?_
  refine l_a rfl ?_
  refine l_nil ?_
  exact IH (i + 1) _ _ (by omega) ⟨rfl, rfl, rfl, rfl, trivial⟩ ⟨by omega, ixd_step hno hz (decide_eq_false (by intro h; exact hg29 h.1)), (S25.take 1)⟩
 obtain rfl : i = rs.length := by omega
 rw [List.take_length] at hno
 refine r_exit rfl ?_
 refine r_seq ?_
 refine r_region ?_
 refine l_a rfl ?_
 refine l_nil ?_
 refine r_ret (rs := [.tmp 6]) [_] Tryz.func115 rfl ⟨rfl, trivial⟩ ?_
 exact ⟨congrArg Value.bool (by unfold counts; rw [voided_no (fun y hy => by obtain ⟨z, hz, rfl⟩ := List.mem_map.1 hy; exact hno z hz), decide_eq_true (by omega)]; rfl), S1.le⟩

theorem apn_50 {out : List Rw} {k i : Nat} (h : out.length ≤ i) (hi : i ≤ 400) : ([] : List Rw).length + (out.take k).length ≤ maxLen ∧ (([] : List Rw).length + (out.take k).length) * 120 ≤ 140737488355328 := by
 simp
 unfold maxLen
 omega

theorem apn_57 {out : List Rw} {a : Rw} {k i : Nat} (h : out.length ≤ i) (hi : i ≤ 400) : ([] ++ out.take k).length + ([a] : List Rw).length ≤ maxLen ∧ (([] ++ out.take k).length + ([a] : List Rw).length) * 120 ≤ 140737488355328 := by
 simp
 unfold maxLen
 omega

theorem apn_62 {out : List Rw} {a : Rw} {k i : Nat} (h : out.length ≤ i) (hi : i ≤ 400) : ([] ++ out.take k ++ [a]).length + (out.drop k).length ≤ maxLen ∧ (([] ++ out.take k ++ [a]).length + (out.drop k).length) * 120 ≤ 140737488355328 := by
 simp
 unfold maxLen
 omega

set_option maxHeartbeats 4000000 in
theorem c_rCounting (rs : List Rw) (vl : Value) (known : Int) (w : World) (hD : DsR 26 3 w vl rs) :
  Cl Tryz.prog 50 #[vl, .int .i64 known] w fun v w' => ∃ rs', dl rs' = (if rightD (dl rs) = true then counting (dl rs) known else []) ∧ (∀ b ∈ rs', b ∈ rs) ∧ New w w' (vec ED v rs') ∧ Le w w' := by
 refine fn_of_run (args := [_, _]) 64 Tryz.func50 rfl rfl rfl fun cs => ?_
 have S := Own.start (X := nob) w
 refine r_seq ?_
 refine r_region ?_
 refine l_a rfl ?_
 refine l_nil ?_
 refine r_seq ?_
 refine r_seq ?_
 refine r_region ?_
 refine l_m rfl ?_
 refine l_call [] [] [_] rfl rfl Tryz.call88 rfl (c_rright rs _ _ (hD.le S.le)) ?_
 rintro _ w1 ⟨rfl, hl3⟩
 have S2 := S.step hl3
 refine l_x rfl (x_not rfl) ?_
 refine l_nil ?_
 refine r_if rfl (fun hc11 => ?_) (fun hc11 => ?_)
 ·skip
  refine r_seq ?_
  refine r_region ?_
  refine l_a rfl ?_
  refine l_nil ?_
  refine r_ret (rs := [.tmp 4]) [_] Tryz.func50 rfl ⟨rfl, trivial⟩ ?_
  exact ⟨[], by rw [if_neg (by simpa using hc11)]; rfl, nofun, New.nilvec .., S2.le⟩
 have hR : rightD (dl rs) = true := by simpa using hc11
 have hA := right_asc hR
 have hlr := right_len hR
 rw [dl_len] at hlr
 refine r_skip ?_
 refine r_seq ?_
 refine r_region ?_
 refine l_a rfl ?_
 have S4 := S2.nilvec (E := ED)
 refine l_nil ?_
 refine r_seq ?_
 refine r_seq ?_
 refine r_region ?_
 refine l_a rfl ?_
 refine l_nil ?_
 refine r_block ?_
 refine r_loop (G := Nat × List Rw × Value) (fun ⟨i, out, vo⟩ => rs.length - i) (fun ⟨i, out, vo⟩ => [(0, vl), (1, .int .i64 known), (5, vo), (6, .int .i64 i)]) (fun ⟨i, out, vo⟩ w' => (i ≤ rs.length) ∧ (dl out = (order (((dl rs).take i).filter (counts (dl rs) known)))) ∧ (∀ b ∈ out, b ∈ rs) ∧ Own nob w w' [vec ED vo out]) (0, [], .slice none 0 0) ⟨rfl, rfl, rfl, rfl, trivial⟩ ⟨Nat.zero_le _, rfl, nofun, (S4.take 1)⟩ ?_
 rintro ⟨i, out, vo⟩ ρ w1 ⟨hi, ho, hmem, S1⟩ IH
 refine r_seq ?_
 refine r_seq ?_
 refine r_region ?_
 refine l_m rfl ?_
 refine l_m rfl ?_
 refine l_x rfl (x_len (hD.rd.le S1.le) rfl Tryz.runUnderlying23) ?_
 refine l_x rfl (x_lss rfl rfl) ?_
 refine l_nil ?_
 refine r_ifd rfl (fun hc15 => ?_) (fun hc15 => ?_)
 ·skip
  obtain ⟨a, ha⟩ : ∃ a, rs[i]? = some a := ⟨_, List.getElem?_eq_getElem (by omega)⟩
  have ham := List.mem_of_getElem? ha
  refine r_skip ?_
  refine r_seq ?_
  refine r_block ?_
  refine r_seq ?_
  refine r_seq ?_
  refine r_region ?_
  refine l_m rfl ?_
  refine l_m rfl ?_
  refine l_m rfl ?_
  refine l_index ED rfl (hD.rd.le S1.le) rfl rfl Tryz.runUnderlying23 Tryz.sizeOf26 (by omega) ha ?_
  intro b5 o6 hat7 row8
  refine l_x rfl (x_load rfl (ld_row Tryz.isAgg26 Tryz.sizeOf26 rfl row8)) ?_
  refine l_m rfl ?_
  refine l_call [] [] [_, _, _] rfl rfl Tryz.call115 rfl (c_rcounts rs _ a known _ (hD.le S1.le) ((hD.sub a ham).le S1.le)) ?_
  rintro _ w9 ⟨rfl, hl11⟩
  have S10 := S1.step hl11
  refine l_x rfl (x_not rfl) ?_
  refine l_nil ?_
  refine r_if rfl (fun hc25 => ?_) (fun hc25 => ?_)
  ·skip
   refine r_exit rfl ?_
   refine r_region ?_
   refine l_m rfl ?_
   refine l_x rfl (x_add rfl rfl (by omega)) ?_
   refine l_a rfl ?_
   refine l_nil ?_
   exact IH (i + 1, out, vo) _ _ (by dsimp only; omega) ⟨rfl, rfl, rfl, rfl, trivial⟩ ⟨by omega, (by rw [ho, take_one9 (dl_get ha), filter_out (by simpa using hc25)]), hmem, (S10.take 1)⟩
  have hcn : counts (dl rs) known a.1 = true := by simpa using hc25
  have hsd : (dl out).Pairwise (fun a b => a.day ≤ b.day) := by rw [ho]; exact order_day hA i _
  have hol : out.length ≤ i := by rw [← dl_len, ho, (order_perm _).length_eq]; exact Nat.le_trans (List.length_filter_le _ _) (by rw [List.length_take]; omega)
  have hi9 : i ≤ 400 := by omega
  refine r_skip ?_
  refine r_seq ?_
  refine r_region ?_
  refine l_m rfl ?_
  refine l_x rfl (x_len (vec_rd (S10.at 0 rfl)) rfl Tryz.runUnderlying23) ?_
  refine l_a rfl ?_
  refine l_nil ?_
  refine r_seq ?_
  refine r_block ?_
  refine r_loop (G := Nat) (fun k => k) (fun k => [(0, vl), (1, .int .i64 known), (5, vo), (6, .int .i64 i), (7, .int .i64 k)]) (fun k w' => (k ≤ out.length) ∧ (∀ y ∈ out.drop k, a.1.day < y.1.day) ∧ Own nob w w' [vec ED vo out]) out.length ⟨rfl, rfl, rfl, rfl, rfl, trivial⟩ ⟨Nat.le_refl _, by simp, (S10.take 1)⟩ ?_
  rintro k ρ w1b ⟨hk, hdk, S1b⟩ IHb
  refine r_seq ?_
  refine r_seq ?_
  refine r_drawR 16 Tryz.mixed (by kernel_rfl) ?_
  refine w_x rfl (fun w1 h1 => x_mv rfl) ?_
  refine w_x rfl (fun w1 h1 => x_gtr rfl rfl) ?_
  refine w_x rfl (fun w1 h1 => x_mv rfl) ?_
  refine w_splitd (d := 30) rfl (fun hg30 => ?_) (fun hg30 => ?_)
  ·skip
   obtain ⟨z, hz⟩ : ∃ z, out[k - 1]? = some z := ⟨_, List.getElem?_eq_getElem (by omega)⟩
   refine w_x rfl (fun w1 h1 => x_mv rfl) ?_
   refine w_x rfl (fun w1 h1 => x_mv rfl) ?_
   refine w_x rfl (fun w1 h1 => x_sub rfl rfl (by omega)) ?_
   refine w_index ED rfl (vec_rd (S1b.at 0 rfl)) rfl rfl Tryz.runUnderlying23 Tryz.sizeOf26 (by omega) (by rw [show ((k : Int) - 1).toNat = k - 1 by omega]; exact hz) ?_
   intro b12 o13 hat14 row15
   refine w_x rfl (fun w1 h1 => x_fieldAddr rfl Tryz.runUnderlying26 rfl Tryz.sizeOf3 (by decide)) ?_
   refine w_x rfl (fun w1 h1 => x_load rfl (ld_cell Tryz.isAgg3 ((row15.le h1) 1 _ rfl))) ?_
   refine w_x rfl (fun w1 h1 => x_mv rfl) ?_
   refine w_x rfl (fun w1 h1 => x_mv rfl) ?_
   refine w_index ED rfl (hD.rd.le S1b.le) rfl rfl Tryz.runUnderlying23 Tryz.sizeOf26 (by omega) ha ?_
   intro b16 o17 hat18 row19
   refine w_x rfl (fun w1 h1 => x_fieldAddr rfl Tryz.runUnderlying26 rfl Tryz.sizeOf3 (by decide)) ?_
   refine w_x rfl (fun w1 h1 => x_load rfl (ld_cell Tryz.isAgg3 ((row19.le h1) 1 _ rfl))) ?_
   refine w_x rfl (fun w1 h1 => x_gtr rfl rfl) ?_
   refine w_x rfl (fun w1 h1 => x_pick_t rfl rfl) ?_
   refine w_nil ?_
   intro w20 hl21
   have S22 := S1b.step hl21
   refine l_nil ?_
   refine r_ifd rfl (fun hc43 => ?_) (fun hc43 => ?_)
   ·skip
    refine r_skip ?_
    refine r_block ?_
    refine r_region ?_
    refine l_m rfl ?_
    refine l_x rfl (x_sub rfl rfl (by omega)) ?_
    refine l_a rfl ?_
    refine l_nil ?_
    refine r_inBlock ?_
    exact IHb (k - 1) _ _ (by omega) ⟨rfl, rfl, rfl, rfl, (congrArg (Value.int .i64) (by omega)), trivial⟩ ⟨by omega, drop_more hz (by omega) hc43 hdk, (S22.take 1)⟩
   refine r_exit rfl ?_
   refine r_seq ?_
   refine r_region ?_
   refine l_buildSlice ED [] S22 rfl Tryz.runUnderlying23 Tryz.sizeOf26 Tryz.zeroValue26 rfl trivial (Nat.le_of_ble_eq_true rfl) ?_
   intro v26 w23 S24 hl25
   refine l_m rfl ?_
   refine l_m rfl ?_
   refine l_head (vec_rd (S24.at 0 rfl)) rfl rfl rfl Tryz.runUnderlying23 Tryz.sizeOf26 (by omega) ?_
   intro v27 ht28
   refine l_append ED S24 1 rfl rfl rfl rfl ht28 Tryz.underlying23 info26 rfl rfl rfl (apn_50 hol hi9).1 (apn_50 hol hi9).2 ?_
   intro v32 w29 S30 hk31 hv33
   refine l_a rfl ?_
   refine l_nil ?_
   refine r_seq ?_
   refine r_region ?_
   refine l_m rfl ?_
   refine l_m rfl ?_
   refine l_m rfl ?_
   refine l_index ED rfl (hD.rd.le S30.le) rfl rfl Tryz.runUnderlying23 Tryz.sizeOf26 (by omega) ha ?_
   intro b34 o35 hat36 row37
   refine l_x rfl (x_load rfl (ld_row Tryz.isAgg26 Tryz.sizeOf26 rfl row37)) ?_
   refine l_buildSlice ED [a] S30 rfl Tryz.runUnderlying23 Tryz.sizeOf26 Tryz.zeroValue26 rfl ⟨rfl, rfl, trivial⟩ (Nat.le_of_ble_eq_true rfl) ?_
   intro v41 w38 S39 hl40
   refine l_append ED S39 1 rfl rfl rfl rfl (vec_rd (S39.at 2 rfl)) Tryz.underlying23 info26 rfl rfl rfl (apn_57 hol hi9).1 (apn_57 hol hi9).2 ?_
   intro v45 w42 S43 hk44 hv46
   refine l_a rfl ?_
   refine l_nil ?_
   refine r_region ?_
   refine l_m rfl ?_
   refine l_m rfl ?_
   refine l_m rfl ?_
   refine l_tail S43 0 rfl rfl rfl rfl Tryz.runUnderlying23 Tryz.sizeOf26 (by omega) ?_
   intro v47 ht48
   refine l_append ED S43 1 rfl rfl rfl rfl (tail_rd ht48 (S43.at 0 rfl)) Tryz.underlying23 info26 rfl rfl rfl (apn_62 hol hi9).1 (apn_62 hol hi9).2 ?_
   intro v52 w49 S50 hk51 hv53
   refine l_a rfl ?_
   refine l_nil ?_
   refine r_inBlock ?_
   refine r_region ?_
   refine l_m rfl ?_
   refine l_x rfl (x_add rfl rfl (by omega)) ?_
   refine l_a rfl ?_
   refine l_nil ?_
   exact IH (i + 1, [] ++ out.take (k : Int).toNat ++ [a] ++ out.drop (k : Int).toNat, v52) _ _ (by dsimp only; omega) ⟨rfl, rfl, rfl, rfl, trivial⟩ ⟨by omega, rw_ins ho hsd (dl_get ha) hcn hk (.inr ⟨z, hz, hc43⟩) hdk, mem_ins_rw hmem ham, (S50.pick (L' := [_]) [1] (by decide) rfl)⟩
  refine w_pass rfl ?_
  refine w_pass rfl ?_
  refine w_pass rfl ?_
  refine w_pass rfl ?_
  refine w_pass rfl ?_
  refine w_pass rfl ?_
  refine w_pass rfl ?_
  refine w_pass rfl ?_
  refine w_pass rfl ?_
  refine w_pass rfl ?_
  refine w_pass rfl ?_
  refine w_pass rfl ?_
  refine w_x rfl (fun w1 h1 => x_pick_f rfl rfl) ?_
  refine w_nil ?_
  intro w54 hl55
  have S56 := S1b.step hl55
  refine l_nil ?_
  refine r_false rfl ?_
  refine r_exit rfl ?_
  refine r_seq ?_
  refine r_region ?_
  refine l_buildSlice ED [] S56 rfl Tryz.runUnderlying23 Tryz.sizeOf26 Tryz.zeroValue26 rfl trivial (Nat.le_of_ble_eq_true rfl) ?_
  intro v60 w57 S58 hl59
  refine l_m rfl ?_
  refine l_m rfl ?_
  refine l_head (vec_rd (S58.at 0 rfl)) rfl rfl rfl Tryz.runUnderlying23 Tryz.sizeOf26 (by omega) ?_
  intro v61 ht62
  refine l_append ED S58 1 rfl rfl rfl rfl ht62 Tryz.underlying23 info26 rfl rfl rfl (apn_50 hol hi9).1 (apn_50 hol hi9).2 ?_
  intro v66 w63 S64 hk65 hv67
  refine l_a rfl ?_
  refine l_nil ?_
  refine r_seq ?_
  refine r_region ?_
  refine l_m rfl ?_
  refine l_m rfl ?_
  refine l_m rfl ?_
  refine l_index ED rfl (hD.rd.le S64.le) rfl rfl Tryz.runUnderlying23 Tryz.sizeOf26 (by omega) ha ?_
  intro b68 o69 hat70 row71
  refine l_x rfl (x_load rfl (ld_row Tryz.isAgg26 Tryz.sizeOf26 rfl row71)) ?_
  refine l_buildSlice ED [a] S64 rfl Tryz.runUnderlying23 Tryz.sizeOf26 Tryz.zeroValue26 rfl ⟨rfl, rfl, trivial⟩ (Nat.le_of_ble_eq_true rfl) ?_
  intro v75 w72 S73 hl74
  refine l_append ED S73 1 rfl rfl rfl rfl (vec_rd (S73.at 2 rfl)) Tryz.underlying23 info26 rfl rfl rfl (apn_57 hol hi9).1 (apn_57 hol hi9).2 ?_
  intro v79 w76 S77 hk78 hv80
  refine l_a rfl ?_
  refine l_nil ?_
  refine r_region ?_
  refine l_m rfl ?_
  refine l_m rfl ?_
  refine l_m rfl ?_
  refine l_tail S77 0 rfl rfl rfl rfl Tryz.runUnderlying23 Tryz.sizeOf26 (by omega) ?_
  intro v81 ht82
  refine l_append ED S77 1 rfl rfl rfl rfl (tail_rd ht82 (S77.at 0 rfl)) Tryz.underlying23 info26 rfl rfl rfl (apn_62 hol hi9).1 (apn_62 hol hi9).2 ?_
  intro v86 w83 S84 hk85 hv87
  refine l_a rfl ?_
  refine l_nil ?_
  refine r_inBlock ?_
  refine r_region ?_
  refine l_m rfl ?_
  refine l_x rfl (x_add rfl rfl (by omega)) ?_
  refine l_a rfl ?_
  refine l_nil ?_
  exact IH (i + 1, [] ++ out.take (k : Int).toNat ++ [a] ++ out.drop (k : Int).toNat, v86) _ _ (by dsimp only; omega) ⟨rfl, rfl, rfl, rfl, trivial⟩ ⟨by omega, rw_ins ho hsd (dl_get ha) hcn hk (.inl (by omega)) hdk, mem_ins_rw hmem ham, (S84.pick (L' := [_]) [1] (by decide) rfl)⟩
 obtain rfl : i = rs.length := by omega
 refine r_exit rfl ?_
 refine r_seq ?_
 refine r_region ?_
 refine l_m rfl ?_
 refine l_a rfl ?_
 refine l_nil ?_
 refine r_ret (rs := [.tmp 4]) [_] Tryz.func50 rfl ⟨rfl, trivial⟩ ?_
 exact ⟨out, by rw [if_pos hR, ho, ← dl_len, List.take_length]; rfl, hmem, S1.new 0 rfl, S1.le⟩

end Go.Proofs
