/- Texts joined for claims: M20, M21, M22, M19, M23, M10, M9, M26. -/
import Derived.Test.YtaigapdghhoncaaGreatDoorK9afd556b26
import Derived.Test.YtaigapdghhoncaaGreatDoorK6d2c2eb465
import Derived.Test.YtaigapdghhoncaaGreatDoorK1261470d5f
import Derived.Test.YtaigapdghhoncaaGreatDoorK92608acdbc
import Derived.Test.YtaigapdghhoncaaGreatDoorKa3f0850865
set_option linter.unusedVariables false
set_option linter.unusedSimpArgs false
set_option linter.unusedSectionVars false
namespace Go.Proofs
open Go Go.Vk Go.Vk.Flow

open Go.Vk.Mark
open Go.Vk.Deed (i64 rng rng_iff owners sumI sumI_cons sumI_snoc)
open Go.Vk.Deed (cmpI)

theorem c_triedT (bb : Nat) (vc vu vn : Value) (cz : List Clm) (ms : List Nat) (cn : List Int) (i k t : Nat) (mr : List Nat) (hm : ms[i]? = some t) (ht : t ∈ mr) (hb : BnOk mr cz cn) (hk : k < cz.length + 1) (w : World) (S : Own (bnR bb vc vu vn cz ms cn).fp w w [bnR bb vc vu vn cz ms cn]) :
  Cl Tryz.prog 92 #[.pointer (some ⟨bb, 0, none⟩), Value.int .i64 i, Value.int .i64 ((k : Int) - 1), .bool true] w fun v w' =>
   (tryB cz cn t k = true ∧ v = .bool true ∧ Own (bnR bb vc vu vn cz ms cn).fp w w' [bnR bb vc vu vn (czK cz k) ms (giveN cn t 1)]) ∨ (tryB cz cn t k = false ∧ v = .bool false ∧ Own (bnR bb vc vu vn cz ms cn).fp w w' [bnR bb vc vu vn cz ms cn]) := by
 obtain ⟨x, hx, hx1⟩ := hb.at ht
 have hts := hb.small ht
 cases k with
 | zero =>
  refine (c_tried0 bb vc vu vn cz ms cn hb.l hb.b hb.n hb.c i true t x hm hx hx1 w S).mono fun v w' h => ?_
  obtain ⟨ok, hok, rfl, h⟩ := h
  rw [← hok] at h
  cases ok with
  | true => exact .inl ⟨hok.symm, rfl, h⟩
  | false => exact .inr ⟨hok.symm, rfl, h⟩
 | succ j =>
  obtain ⟨c, hc⟩ : ∃ c, cz[j]? = some c := ⟨_, List.getElem?_eq_getElem (by omega)⟩
  rw [show (((j + 1 : Nat) : Int) - 1) = (j : Int) by omega, try_succ hc]
  refine (c_triedJ bb vc vu vn cz ms cn hb.l hb.b hb.n hb.c i true t x hm hx hx1 j c hc hts w S).mono fun v w' h => ?_
  rcases h with ⟨h1, rfl, h⟩ | ⟨h1, h2, ok, hok, rfl, h⟩
  ·refine .inr ⟨?_, rfl, h⟩
   rcases h1 with h1 | h1
   ·rw [h1]; rfl
   simp [h1]
  rw [h1, decide_eq_true h2, Bool.true_and, Bool.true_and, ← hok]
  rw [← hok] at h
  cases ok with
  | true => exact .inl ⟨rfl, rfl, h⟩
  | false => exact .inr ⟨rfl, rfl, h⟩

theorem c_triedF (bb : Nat) (vc vu vn : Value) (cz : List Clm) (ms : List Nat) (cn : List Int) (i k t : Nat) (mr : List Nat) (hm : ms[i]? = some t) (ht : t ∈ mr) (hb : BnOk mr cz cn) (hk : k < cz.length + 1) (w : World) (S : Own (bnR bb vc vu vn cz ms cn).fp w w [bnR bb vc vu vn cz ms cn]) :
  Cl Tryz.prog 92 #[.pointer (some ⟨bb, 0, none⟩), Value.int .i64 i, Value.int .i64 ((k : Int) - 1), .bool false] w fun v w' =>
   (tryB cz cn t k = true ∧ v = .bool true ∧ Own (bnR bb vc vu vn cz ms cn).fp w w' [bnR bb vc vu vn cz ms cn]) ∨ (tryB cz cn t k = false ∧ v = .bool false ∧ Own (bnR bb vc vu vn cz ms cn).fp w w' [bnR bb vc vu vn cz ms cn]) := by
 obtain ⟨x, hx, hx1⟩ := hb.at ht
 have hts := hb.small ht
 cases k with
 | zero =>
  refine (c_tried0 bb vc vu vn cz ms cn hb.l hb.b hb.n hb.c i false t x hm hx hx1 w S).mono fun v w' h => ?_
  obtain ⟨ok, hok, rfl, h⟩ := h
  rw [← hok] at h
  cases ok with
  | true => exact .inl ⟨hok.symm, rfl, h⟩
  | false => exact .inr ⟨hok.symm, rfl, h⟩
 | succ j =>
  obtain ⟨c, hc⟩ : ∃ c, cz[j]? = some c := ⟨_, List.getElem?_eq_getElem (by omega)⟩
  rw [show (((j + 1 : Nat) : Int) - 1) = (j : Int) by omega, try_succ hc]
  refine (c_triedJ bb vc vu vn cz ms cn hb.l hb.b hb.n hb.c i false t x hm hx hx1 j c hc hts w S).mono fun v w' h => ?_
  rcases h with ⟨h1, rfl, h⟩ | ⟨h1, h2, ok, hok, rfl, h⟩
  ·refine .inr ⟨?_, rfl, h⟩
   rcases h1 with h1 | h1
   ·rw [h1]; rfl
   simp [h1]
  rw [h1, decide_eq_true h2, Bool.true_and, Bool.true_and, ← hok]
  rw [← hok] at h
  cases ok with
  | true => exact .inl ⟨rfl, rfl, h⟩
  | false => exact .inr ⟨rfl, rfl, h⟩

theorem c_ownerK (bb : Nat) (vc vu vn : Value) (cz : List Clm) (ms : List Nat) (cn : List Int) (k : Nat) (hk : k < cz.length + 1) (w : World) (hN : BnP w bb vc vu vn cz ms cn) :
  Cl Tryz.prog 93 #[.pointer (some ⟨bb, 0, none⟩), Value.int .i64 ((k : Int) - 1)] w fun v w' => v = .int .i64 (ownK cz k) ∧ Le w w' := by
 cases k with
 | zero => exact c_ownerOf0 _ w
 | succ j =>
  obtain ⟨c, hc⟩ : ∃ c, cz[j]? = some c := ⟨_, List.getElem?_eq_getElem (by omega)⟩
  rw [show (((j + 1 : Nat) : Int) - 1) = (j : Int) by omega, own_succ hc]
  exact c_ownerOf bb vc vu vn cz ms cn j c hc w hN
theorem czk_own {cz : List Clm} {k : Nat} : ∀ j : Nat, ((czK cz k)[j]?.map fun c : Clm => c.owner) = (cz[j]?.map fun c : Clm => c.owner) := fun j => by
 cases k with
 | zero => rfl
 | succ q =>
  show ((giveC cz q 1)[j]?.map fun c : Clm => c.owner) = _
  unfold giveC
  cases hc : cz[q]? with
  | none => rfl
  | some c =>
   simp only [List.getElem?_set]
   split
   ·next e => subst e; rw [if_pos (List.getElem?_eq_some_iff.1 hc).1, hc]; rfl
   rfl
theorem czk_ownK {cz : List Clm} {k : Nat} : ownK (czK cz k) k = ownK cz k := by
 cases k with
 | zero => rfl
 | succ j =>
  show ((czK cz (j + 1))[j]?.map fun c : Clm => c.owner).getD 0 = (cz[j]?.map fun c : Clm => c.owner).getD 0
  rw [czk_own]

end Go.Proofs

namespace Go.Proofs
open Go Go.Vk Go.Vk.Flow

open Go.Vk.Mark
open Go.Vk.Deed (i64 rng rng_iff owners sumI sumI_cons sumI_snoc)
open Go.Vk.Deed (cmpI)

abbrev asR (b1 b2 b3 b4 bb : Nat) (pv : Option Addr) (nv cv : Nat) (vc vu vn vo : Value) (ms : List Nat) (cz : List Clm) (cn : List Int) (l : List Int) : Rsc := pack [blk b1 [.slice pv nv cv] 50, blk b2 [.pointer (some ⟨bb, 0, none⟩)] 124, blk b3 [vo] 52, blk b4 [.func (.func 91) #[] #[.pointer (some ⟨b1, 0, none⟩), .pointer (some ⟨b2, 0, none⟩), .pointer (some ⟨b3, 0, none⟩), .pointer (some ⟨b4, 0, none⟩)]] 127, bnR bb vc vu vn cz ms cn, vec EI vo l]
def AsgC (b1 b2 b3 b4 bb : Nat) (pv : Option Addr) (nv cv : Nat) (vc vu vn vo : Value) (ms : List Nat) (i : Nat) : Prop := ∀ (cz : List Clm) (cn : List Int) (l : List Int) (w : World), BnOk (ms.drop i) cz cn → ms.length = nv → i ≤ ms.length → ms.length ≤ 60 → l.length = ms.length → (∀ q, i ≤ q → q < ms.length → l[q]? = some 0) →
  Own (asR b1 b2 b3 b4 bb pv nv cv vc vu vn vo ms cz cn l).fp w w [asR b1 b2 b3 b4 bb pv nv cv vc vu vn vo ms cz cn l] →
  Cl Tryz.prog 91 #[Value.int .i64 i, .pointer (some ⟨b1, 0, none⟩), .pointer (some ⟨b2, 0, none⟩), .pointer (some ⟨b3, 0, none⟩), .pointer (some ⟨b4, 0, none⟩)] w fun _ w' => ∃ cz' cn', Own (asR b1 b2 b3 b4 bb pv nv cv vc vu vn vo ms cz cn l).fp w w' [asR b1 b2 b3 b4 bb pv nv cv vc vu vn vo ms cz' cn' (l.take i ++ asg (ms.drop i) cz cn)]

theorem _root_.Go.Vk.Own.lend9 {X : Nat → Prop} {w0 w : World} {r : Rsc} (S : Own X w0 w [r]) : Own r.fp w w [r] := S.lend 0 rfl

set_option maxHeartbeats 2000000 in
theorem c_assign1s (b1 b2 b3 b4 bb : Nat) (pv : Option Addr) (nv cv : Nat) (vc vu vn vo : Value) (ms : List Nat) (i : Nat) (ih : AsgC b1 b2 b3 b4 bb pv nv cv vc vu vn vo ms (i + 1)) (cz : List Clm) (cn : List Int) (l : List Int) (w : World) (hb : BnOk (ms.drop i) cz cn) (hnv : ms.length = nv) (hi : i ≤ ms.length) (hm60 : ms.length ≤ 60) (hll : l.length = ms.length) (hz : ∀ q, i ≤ q → q < ms.length → l[q]? = some 0) (S0 : Own (asR b1 b2 b3 b4 bb pv nv cv vc vu vn vo ms cz cn l).fp w w [asR b1 b2 b3 b4 bb pv nv cv vc vu vn vo ms cz cn l]) :
  Cl Tryz.prog 91 #[Value.int .i64 i, .pointer (some ⟨b1, 0, none⟩), .pointer (some ⟨b2, 0, none⟩), .pointer (some ⟨b3, 0, none⟩), .pointer (some ⟨b4, 0, none⟩)] w fun _ w' => ∃ cz' cn', Own (asR b1 b2 b3 b4 bb pv nv cv vc vu vn vo ms cz cn l).fp w w' [asR b1 b2 b3 b4 bb pv nv cv vc vu vn vo ms cz' cn' (l.take i ++ asg (ms.drop i) cz cn)] := by
 have S := S0.open
 have hzl := hb.l
 refine fn_of_run (args := [_, _, _, _, _]) 34 Tryz.func91 rfl rfl rfl fun cs => ?_
 refine r_scope ?_
 refine r_seq ?_
 refine r_seq ?_
 refine r_region ?_
 refine l_m rfl ?_
 refine l_x rfl (x_load rfl (ld_blk (S.blk 0 rfl) Tryz.isAgg50 rfl)) ?_
 refine l_x rfl (x_len_slice rfl Tryz.runUnderlying50) ?_
 refine l_x rfl (x_eql rfl rfl) ?_
 refine l_nil ?_
 refine r_ifd rfl (fun hc10 => ?_) (fun hc10 => ?_)
 ·skip
  have hi0 : i = ms.length := by omega
  refine r_ret (rs := []) [] Tryz.func91 rfl trivial ?_
  exact ⟨cz, cn, by have h := S.close; rw [← asg_end hll hi0]; exact h⟩
 have hil : i < ms.length := by omega
 have hi1 : i + 1 ≤ ms.length := hil
 obtain ⟨t, hm⟩ : ∃ t, ms[i]? = some t := ⟨_, List.getElem?_eq_getElem hil⟩
 have ht : t ∈ ms.drop i := by rw [drop_cons hm]; exact .head _
 refine r_skip ?_
 refine r_seq ?_
 refine r_label ?_
 refine r_seq ?_
 refine r_seq ?_
 refine r_region ?_
 refine l_a rfl ?_
 refine l_nil ?_
 refine r_block ?_
 refine r_loop (G := Nat) (fun k => cz.length + 1 - k) (fun k => [(0, Value.int .i64 i), (1, .pointer (some ⟨b1, 0, none⟩)), (2, .pointer (some ⟨b2, 0, none⟩)), (3, .pointer (some ⟨b3, 0, none⟩)), (4, .pointer (some ⟨b4, 0, none⟩)), (6, Value.int .i64 ((k : Int) - 1))]) (fun k w' => (k ≤ cz.length + 1) ∧ (∀ q, q < k → tryB cz cn t q = false) ∧ Own (asR b1 b2 b3 b4 bb pv nv cv vc vu vn vo ms cz cn l).fp w w' [blk b1 [.slice pv nv cv] 50, blk b2 [.pointer (some ⟨bb, 0, none⟩)] 124, blk b3 [vo] 52, blk b4 [.func (.func 91) #[] #[.pointer (some ⟨b1, 0, none⟩), .pointer (some ⟨b2, 0, none⟩), .pointer (some ⟨b3, 0, none⟩), .pointer (some ⟨b4, 0, none⟩)]] 127, bnR bb vc vu vn cz ms cn, vec EI vo l]) 0 ⟨rfl, rfl, rfl, rfl, rfl, rfl, trivial⟩ ⟨Nat.zero_le _, fun q h => absurd h (Nat.not_lt_zero q), (S.take 6)⟩ ?_
 rintro k ρ w1 ⟨hk, hno, S1⟩ IH
 refine r_seq ?_
 refine r_seq ?_
 refine r_region ?_
 refine l_m rfl ?_
 refine l_x rfl (x_load rfl (ld_blk (S1.blk 1 rfl) Tryz.isAgg124 rfl)) ?_
 refine l_x rfl (x_nilCheck rfl) ?_
 refine l_x rfl (x_fieldAddr rfl Tryz.runUnderlying130 rfl Tryz.sizeOf51 (by decide)) ?_
 refine l_x rfl (x_load rfl (ld_blk ((bn_of (S1.ro 4 rfl)).blk) Tryz.isAgg51 rfl)) ?_
 refine l_x rfl (x_len ((bn_of (S1.ro 4 rfl)).rc) rfl Tryz.runUnderlying51) ?_
 refine l_x rfl (x_lss rfl rfl) ?_
 refine l_nil ?_
 refine r_ifd rfl (fun hc17 => ?_) (fun hc17 => ?_)
 ·skip
  refine r_skip ?_
  refine r_seq ?_
  refine r_block ?_
  refine r_seq ?_
  refine r_region ?_
  refine l_x rfl (x_load rfl (ld_blk (S1.blk 1 rfl) Tryz.isAgg124 rfl)) ?_
  refine l_m rfl ?_
  refine l_m rfl ?_
  refine l_call [] [] [_, _, _, _] rfl rfl Tryz.call92 rfl (c_triedT bb vc vu vn cz ms cn i k t (ms.drop i) hm ht hb (by omega) _ (S1.lend 4 rfl)) ?_
  rintro _ w1 (⟨ht231, rfl, hl231⟩ | ⟨ht231, rfl, hl231⟩)
  ·skip
   have S2 := S1.back 4 rfl hl231
   refine l_nil ?_
   refine r_true rfl ?_
   refine r_seq ?_
   refine r_drawR 6 Tryz.mixed (by kernel_rfl) ?_
   refine w_x rfl (fun w1 h1 => x_load rfl (ld_blk ((S2.step h1).blk 2 rfl) Tryz.isAgg52 rfl)) ?_
   refine w_x rfl (fun w1 h1 => x_mv rfl) ?_
   refine w_x rfl (fun w1 h1 => x_load rfl (ld_blk ((S2.step h1).blk 1 rfl) Tryz.isAgg124 rfl)) ?_
   refine w_x rfl (fun w1 h1 => x_mv rfl) ?_
   refine wd_call [] [] [_, _] rfl rfl Tryz.call93 rfl (fun w1 h1 => c_ownerK bb vc vu vn (czK cz k) ms (giveN cn t 1) k (by rw [czK_len]; omega) _ (bn_of ((S2.step h1).ro 4 rfl))) ?_
   refine w_index EI rfl (vec_rd (S2.at 5 rfl)) rfl rfl Tryz.runUnderlying52 Tryz.sizeOf3 (by omega) (by rw [Int.toNat_natCast]; exact hz i (Nat.le_refl _) hil) ?_
   intro b3 o4 hat5 row6
   refine w_nil ?_
   intro w7 hl8
   have S9 := S2.step hl8
   refine l_storevi (a' := _) (f := 0) S9 5 rfl rfl hat5 rfl rfl Tryz.sizeOf3 (by rw [Int.toNat_natCast]; exact hz i (Nat.le_refl _) hil) (by decide) rfl ?_
   intro w10 S11 hk12
   refine l_nil ?_
   refine r_exit rfl ?_
   refine r_region ?_
   refine l_x rfl (x_load rfl (ld_blk (S11.blk 3 rfl) Tryz.isAgg127 rfl)) ?_
   refine l_m rfl ?_
   refine l_x rfl (x_add rfl rfl (by omega)) ?_
   refine l_call [] [_, _, _, _] [_, _, _, _, _] rfl rfl Tryz.call91 rfl (ih (czK cz k) (giveN cn t 1) (l.set i (ownK (czK cz k) k)) _ ((by rw [drop_cons hm] at hb; exact hb : BnOk (t :: ms.drop (i + 1)) cz cn).give ht231) hnv hi1 hm60 (by rw [List.length_set]; exact hll) (zeros_set hz) S11.close.lend9) ?_
   rintro _ w13 ⟨cz', cn', h14⟩
   have S15 := S11.close.back 0 rfl h14
   refine l_nil ?_
   refine r_inScope ?_
   refine r_end (rs := []) [] Tryz.func91 rfl trivial ?_
   exact ⟨_, _, by have h := S15; rw [czk_ownK, asg_step hll hm (pick_some ht231 hno)] at h; exact h⟩
  have S16 := S1.back 4 rfl hl231
  refine l_nil ?_
  refine r_false rfl ?_
  refine r_skip ?_
  refine r_inBlock ?_
  refine r_region ?_
  refine l_m rfl ?_
  refine l_x rfl (x_add rfl rfl (by omega)) ?_
  refine l_a rfl ?_
  refine l_nil ?_
  exact IH (k + 1) _ _ (by omega) ⟨rfl, rfl, rfl, rfl, rfl, (congrArg (Value.int .i64) (by omega)), trivial⟩ ⟨by omega, no_snoc hno ht231, (S16.take 6)⟩
 obtain rfl : k = cz.length + 1 := by omega
 refine r_exit rfl ?_
 refine r_region ?_
 refine l_x rfl (x_load rfl (ld_blk (S1.blk 3 rfl) Tryz.isAgg127 rfl)) ?_
 refine l_m rfl ?_
 refine l_x rfl (x_add rfl rfl (by omega)) ?_
 refine l_call [] [_, _, _, _] [_, _, _, _, _] rfl rfl Tryz.call91 rfl (ih cz cn l _ ((by rw [drop_cons hm] at hb; exact hb : BnOk (t :: ms.drop (i + 1)) cz cn).tail) hnv hi1 hm60 hll (fun q h1 h2 => hz q (by omega) h2) S1.close.lend9) ?_
 rintro _ w17 ⟨cz', cn', h18⟩
 have S19 := S1.close.back 0 rfl h18
 refine l_nil ?_
 refine r_inScope ?_
 refine r_end (rs := []) [] Tryz.func91 rfl trivial ?_
 exact ⟨_, _, by have h := S19; rw [asg_stay (hz i (Nat.le_refl _) hil) hm (pick_none hno)] at h; exact h⟩

theorem c_assign1 (b1 b2 b3 b4 bb : Nat) (pv : Option Addr) (nv cv : Nat) (vc vu vn vo : Value) (ms : List Nat) : ∀ (d i : Nat), ms.length + 1 - i = d → AsgC b1 b2 b3 b4 bb pv nv cv vc vu vn vo ms i := by
 intro d
 induction d with
 | zero => intro i hd cz cn l w _ _ hi; omega
 | succ d ihd => intro i hd cz cn l w hb hnv hi h60 hll hz S0; exact c_assign1s b1 b2 b3 b4 bb pv nv cv vc vu vn vo ms i (ihd (i + 1) (by omega)) cz cn l w hb hnv hi h60 hll hz S0

set_option maxHeartbeats 4000000 in
theorem c_Assign (b : Sm) (vm vf : Value) (day : Int) (found : List Sg) (vs : Value) (cs9 : List Clm) (vq : Value) (hm : found.length ≤ 9223372036854775807) (hmc : cs9.length ≤ 9223372036854775807) (hsg : ∀ t ∈ found, SgOk t) (w : World) (hB : SmR 39 41 w vm vf b) (hF : Rd ESG w vs found) (hC : Rd ECL w vq cs9) :
  Cl Tryz.prog 27 #[.agg #[vm, vf], Value.int .i64 day, vs, vq] w fun v w' => (∃ e, e ≠ 0 ∧ v = .tuple #[.slice none 0 0, .bool false, .int .i64 e] ∧ e = beginE b day true found cs9 ∧ Le w w') ∨ (∃ cz, beginE b day true found cs9 = 0 ∧ cz.Perm cs9 ∧ SortedL (fun x y : Clm => cmpI x.owner y.owner) cz ∧ canB cz (cnz b day found cz) = false ∧ v = .tuple #[.slice none 0 0, .bool false, .int .i64 0] ∧ Le w w') ∨ (∃ cz s, beginE b day true found cs9 = 0 ∧ cz.Perm cs9 ∧ SortedL (fun x y : Clm => cmpI x.owner y.owner) cz ∧ canB cz (cnz b day found cz) = true ∧ v = .tuple #[s, .bool true, .int .i64 0] ∧ New w w' (vec EI s (asg (mks b day found cz) cz (cnz b day found cz))) ∧ Le w w') := by
 obtain ⟨pv, cv, hvs, -⟩ := id hF
 subst hvs
 refine fn_of_run (args := [_, _, _, _]) 38 Tryz.func27 rfl rfl rfl fun cs => ?_
 have S := Own.start (X := nob) w
 refine r_seq ?_
 refine r_region ?_
 refine l_box S rfl rfl ?_
 intro b4 w1 S2 hl3
 refine l_box S2 rfl (Rd.cells (hF.le S2.le)) ?_
 intro b8 w5 S6 hl7
 refine l_a rfl ?_
 refine l_a rfl ?_
 refine l_a rfl ?_
 refine l_nil ?_
 refine r_seq ?_
 refine r_region ?_
 refine l_x rfl (x_load rfl (ld_blks (S6.blk 0 rfl) Tryz.isAgg25 Tryz.sizeOf25 rfl rfl)) ?_
 refine l_m rfl ?_
 refine l_x rfl (x_load rfl (ld_blk (S6.blk 1 rfl) Tryz.isAgg50 rfl)) ?_
 refine l_m rfl ?_
 refine l_call [] [] [_, _, _, _, _] rfl rfl Tryz.call89 rfl (c_seated b vm vf day found _ cs9 _ true hm hmc hsg _ (hB.le S6.le) (hF.le S6.le) (hC.le S6.le)) ?_
 rintro _ w9 (⟨e9, hne9, rfl, he9, hl209⟩ | ⟨bb9, vc9, vu9, vn9, cz9, rfl, hb9, hp9, hs9, hN209, hl209⟩)
 ·skip
  have S10 := S6.step hl209
  refine l_m rfl ?_
  refine l_x rfl (x_extract rfl rfl) ?_
  refine l_x rfl (x_extract rfl rfl) ?_
  refine l_alloc S10 rfl Tryz.zeroValue124 rfl ?_
  intro b14 w11 S12 hl13
  refine l_storeq (c' := [_]) S12 2 rfl rfl rfl rfl rfl Tryz.sizeOf124 (by first | (simp; done) | exact Nat.le_of_ble_eq_true rfl) rfl ?_
  intro w15 S16 hk17
  refine l_a rfl ?_
  refine l_nil ?_
  refine r_seq ?_
  refine r_seq ?_
  refine r_region ?_
  refine l_m rfl ?_
  refine l_x rfl (x_neq rfl rfl) ?_
  refine l_m rfl ?_
  refine l_splitd (d := 25) rfl (fun hg25 => ?_) (fun hg25 => ?_)
  ·skip
   refine l_pass rfl ?_
   refine l_pass rfl ?_
   refine l_pass rfl ?_
   refine l_x rfl (x_pick_t rfl rfl) ?_
   refine l_nil ?_
   refine r_true rfl ?_
   refine r_seq ?_
   refine r_region ?_
   refine l_m rfl ?_
   refine l_a rfl ?_
   refine l_a rfl ?_
   refine l_a rfl ?_
   refine l_nil ?_
   refine r_ret (rs := [.tmp 8, .tmp 9, .tmp 10]) [_, _, _] Tryz.func27 rfl ⟨rfl, rfl, rfl, trivial⟩ ?_
   exact .inl ⟨e9, hne9, rfl, he9, S16.le⟩
  exact absurd hne9 hg25
 have S18 := S6.add hl209 hN209
 have hbo := bench_ok hb9 hp9
 have hf60 := bench_len hb9
 refine l_m rfl ?_
 refine l_x rfl (x_extract rfl rfl) ?_
 refine l_x rfl (x_extract rfl rfl) ?_
 refine l_alloc S18 rfl Tryz.zeroValue124 rfl ?_
 intro b22 w19 S20 hl21
 refine l_storeq (c' := [_]) S20 3 rfl rfl rfl rfl rfl Tryz.sizeOf124 (by first | (simp; done) | exact Nat.le_of_ble_eq_true rfl) rfl ?_
 intro w23 S24 hk25
 refine l_a rfl ?_
 refine l_nil ?_
 refine r_seq ?_
 refine r_seq ?_
 refine r_region ?_
 refine l_m rfl ?_
 refine l_x rfl (x_neq rfl rfl) ?_
 refine l_m rfl ?_
 refine l_splitd (d := 25) rfl (fun hg25 => ?_) (fun hg25 => ?_)
 ·exact absurd rfl hg25
 refine l_x rfl (x_load rfl (ld_blk (S24.blk 3 rfl) Tryz.isAgg124 rfl)) ?_
 refine l_call [] [] [_] rfl rfl Tryz.call90 rfl (c_can bb9 vc9 vu9 vn9 cz9 (mks b day found cz9) (cnz b day found cz9) hbo.l hbo.b hbo.n hbo.c _ (bn_of (S24.ro 2 rfl))) ?_
 rintro _ w26 ⟨rfl, hl28⟩
 have S27 := S24.step hl28
 refine l_x rfl (x_not rfl) ?_
 refine l_x rfl (x_pick_f rfl rfl) ?_
 refine l_nil ?_
 refine r_if rfl (fun hc29 => ?_) (fun hc29 => ?_)
 ·skip
  refine r_seq ?_
  refine r_region ?_
  refine l_m rfl ?_
  refine l_a rfl ?_
  refine l_a rfl ?_
  refine l_a rfl ?_
  refine l_nil ?_
  refine r_ret (rs := [.tmp 8, .tmp 9, .tmp 10]) [_, _, _] Tryz.func27 rfl ⟨rfl, rfl, rfl, trivial⟩ ?_
  exact .inr (.inl ⟨cz9, hb9, hp9, hs9, by simpa using hc29, rfl, S27.le⟩)
 refine r_skip ?_
 refine r_seq ?_
 refine r_region ?_
 refine l_x rfl (x_load rfl (ld_blk (S27.blk 1 rfl) Tryz.isAgg50 rfl)) ?_
 refine l_x rfl (x_len (hF.le S27.le) rfl Tryz.runUnderlying50) ?_
 refine l_make EI 0 S27 rfl Tryz.runUnderlying52 Tryz.sizeOf3 Tryz.typeInfo3 Tryz.zeroValue3 rfl rfl rfl rfl (Nat.le_refl _) (by unfold maxLen; omega) (by show _ * 8 ≤ _; omega) ?_
 intro v32 w29 hv33 S30 hl31
 refine l_alloc S30 rfl Tryz.zeroValue52 rfl ?_
 intro b37 w34 S35 hl36
 refine l_storeq (c' := [_]) (v := v32) S35 5 rfl rfl rfl rfl (Rd.one (vec_rd (S35.at 4 rfl))) Tryz.sizeOf52 (by first | (simp; done) | exact Nat.le_of_ble_eq_true rfl) rfl ?_
 intro w38 S39 hk40
 refine l_nil ?_
 refine r_seq ?_
 refine r_region ?_
 refine l_alloc S39 rfl Tryz.zeroValue127 rfl ?_
 intro b44 w41 S42 hl43
 refine l_nil ?_
 refine r_seq ?_
 refine r_region ?_
 refine l_x rfl (x_func rfl rfl) ?_
 refine l_storeq (c' := [_]) S42 6 rfl rfl rfl rfl rfl Tryz.sizeOf127 (by first | (simp; done) | exact Nat.le_of_ble_eq_true rfl) rfl ?_
 intro w45 S46 hk47
 refine l_nil ?_
 refine r_seq ?_
 have S48 := S46.pick (L' := [_, _, _, _, _, _]) [1, 3, 5, 6, 2, 4] (by decide) rfl
 refine r_region ?_
 refine l_x rfl (x_load rfl (ld_blk (S48.blk 3 rfl) Tryz.isAgg127 rfl)) ?_
 refine l_call [] [_, _, _, _] [_, _, _, _, _] rfl rfl Tryz.call91 rfl (c_assign1 b8 b22 b37 b44 bb9 pv found.length cv vc9 vu9 vn9 v32 (mks b day found cz9) _ 0 rfl cz9 (cnz b day found cz9) (List.replicate found.length 0) _ hbo mks_len (Nat.zero_le _) (by rw [mks_len]; omega) (by rw [mks_len, List.length_replicate]) (by rw [mks_len]; exact zeros_rep) S48.close.lend9) ?_
 rintro _ w49 ⟨cz', cn', h50⟩
 have S51 := (S48.close.back 0 rfl h50).open
 refine l_nil ?_
 refine r_seq ?_
 refine r_region ?_
 refine l_x rfl (x_load rfl (ld_blk (S51.blk 2 rfl) Tryz.isAgg52 rfl)) ?_
 refine l_a rfl ?_
 refine l_a rfl ?_
 refine l_a rfl ?_
 refine l_nil ?_
 refine r_ret (rs := [.tmp 8, .tmp 9, .tmp 10]) [_, _, _] Tryz.func27 rfl ⟨rfl, rfl, rfl, trivial⟩ ?_
 exact .inr (.inr ⟨cz9, _, hb9, hp9, hs9, by simpa using hc29, rfl, S51.new 5 rfl, S51.le⟩)

end Go.Proofs

namespace Go.Proofs
open Go Go.Vk Go.Vk.Flow

open Go.Vk.Mark
open Go.Vk.Deed (i64 rng rng_iff owners sumI sumI_cons sumI_snoc)
open Go.Vk.Deed (cmpI)

set_option maxHeartbeats 4000000 in
theorem c_Certain (b : Sm) (vm vf : Value) (day : Int) (found : List Sg) (vs : Value) (cs9 : List Clm) (vq : Value) (hm : found.length ≤ 9223372036854775807) (hmc : cs9.length ≤ 9223372036854775807) (hsg : ∀ t ∈ found, SgOk t) (w : World) (hB : SmR 39 41 w vm vf b) (hF : Rd ESG w vs found) (hC : Rd ECL w vq cs9) :
  Cl Tryz.prog 48 #[.agg #[vm, vf], Value.int .i64 day, vs, vq] w fun v w' => (∃ e, e ≠ 0 ∧ v = .tuple #[.slice none 0 0, .int .i64 e] ∧ e = beginE b day true found cs9 ∧ Le w w') ∨ (∃ cz, beginE b day true found cs9 = 0 ∧ cz.Perm cs9 ∧ SortedL (fun x y : Clm => cmpI x.owner y.owner) cz ∧ canB cz (cnz b day found cz) = false ∧ v = .tuple #[.slice none 0 0, .int .i64 30] ∧ Le w w') ∨ (∃ cz s, beginE b day true found cs9 = 0 ∧ cz.Perm cs9 ∧ SortedL (fun x y : Clm => cmpI x.owner y.owner) cz ∧ canB cz (cnz b day found cz) = true ∧ v = .tuple #[s, .int .i64 0] ∧ New w w' (vec EI s (cert (mks b day found cz) cz (cnz b day found cz))) ∧ Le w w') := by
 refine fn_of_run (args := [_, _, _, _]) 64 Tryz.func48 rfl rfl rfl fun cs => ?_
 have S := Own.start (X := nob) w
 refine r_seq ?_
 refine r_region ?_
 refine l_box S rfl rfl ?_
 intro b4 w1 S2 hl3
 refine l_a rfl ?_
 refine l_a rfl ?_
 refine l_nil ?_
 refine r_seq ?_
 refine r_region ?_
 refine l_x rfl (x_load rfl (ld_blks (S2.blk 0 rfl) Tryz.isAgg25 Tryz.sizeOf25 rfl rfl)) ?_
 refine l_m rfl ?_
 refine l_m rfl ?_
 refine l_m rfl ?_
 refine l_call [] [] [_, _, _, _, _] rfl rfl Tryz.call89 rfl (c_seated b vm vf day found _ cs9 _ true hm hmc hsg _ (hB.le S2.le) (hF.le S2.le) (hC.le S2.le)) ?_
 rintro _ w5 (⟨e9, hne9, rfl, he9, hl225⟩ | ⟨bb9, vc9, vu9, vn9, cz9, rfl, hb9, hp9, hs9, hN225, hl225⟩)
 ·skip
  have S6 := S2.step hl225
  refine l_m rfl ?_
  refine l_x rfl (x_extract rfl rfl) ?_
  refine l_x rfl (x_extract rfl rfl) ?_
  refine l_a rfl ?_
  refine l_a rfl ?_
  refine l_nil ?_
  refine r_seq ?_
  refine r_block ?_
  refine r_seq ?_
  refine r_region ?_
  refine l_m rfl ?_
  refine l_x rfl (x_neq rfl rfl) ?_
  refine l_a rfl ?_
  refine l_nil ?_
  refine r_ifd rfl (fun hc25 => ?_) (fun hc25 => ?_)
  ·skip
   refine r_seq ?_
   refine r_region ?_
   refine l_m rfl ?_
   refine l_a rfl ?_
   refine l_a rfl ?_
   refine l_nil ?_
   refine r_ret (rs := [.tmp 8, .tmp 9]) [_, _] Tryz.func48 rfl ⟨rfl, rfl, trivial⟩ ?_
   exact .inl ⟨e9, hne9, rfl, he9, S6.le⟩
  exact absurd hne9 hc25
 have S7 := S2.add hl225 hN225
 have hbo := bench_ok hb9 hp9
 have hf60 := bench_len hb9
 refine l_m rfl ?_
 refine l_x rfl (x_extract rfl rfl) ?_
 refine l_x rfl (x_extract rfl rfl) ?_
 refine l_a rfl ?_
 refine l_a rfl ?_
 refine l_nil ?_
 refine r_seq ?_
 refine r_block ?_
 refine r_seq ?_
 refine r_region ?_
 refine l_m rfl ?_
 refine l_x rfl (x_neq rfl rfl) ?_
 refine l_a rfl ?_
 refine l_nil ?_
 refine r_ifd rfl (fun hc25 => ?_) (fun hc25 => ?_)
 ·exact absurd rfl hc25
 refine r_seq ?_
 refine r_region ?_
 refine l_m rfl ?_
 refine l_call [] [] [_] rfl rfl Tryz.call90 rfl (c_can bb9 vc9 vu9 vn9 cz9 (mks b day found cz9) (cnz b day found cz9) hbo.l hbo.b hbo.n hbo.c _ (bn_of (S7.ro 1 rfl))) ?_
 rintro _ w8 ⟨rfl, hl10⟩
 have S9 := S7.step hl10
 refine l_x rfl (x_not rfl) ?_
 refine l_a rfl ?_
 refine l_nil ?_
 refine r_if rfl (fun hc29 => ?_) (fun hc29 => ?_)
 ·skip
  refine r_seq ?_
  refine r_region ?_
  refine l_a rfl ?_
  refine l_a rfl ?_
  refine l_nil ?_
  refine r_ret (rs := [.tmp 8, .tmp 9]) [_, _] Tryz.func48 rfl ⟨rfl, rfl, trivial⟩ ?_
  exact .inr (.inl ⟨cz9, hb9, hp9, hs9, by simpa using hc29, rfl, S9.le⟩)
 refine r_skip ?_
 refine r_inBlock ?_
 refine r_seq ?_
 refine r_region ?_
 refine l_a rfl ?_
 have S11 := S9.nilvec (E := EI)
 refine l_nil ?_
 refine r_seq ?_
 refine r_seq ?_
 refine r_region ?_
 refine l_m rfl ?_
 refine l_x rfl (x_len (hF.le S11.le) rfl Tryz.runUnderlying50) ?_
 refine l_m rfl ?_
 refine l_nil ?_
 refine r_block ?_
 refine r_loop (G := Nat × Value) (fun ⟨i, vo⟩ => found.length - i) (fun ⟨i, vo⟩ => [(10, .pointer (some ⟨bb9, 0, none⟩)), (12, vo), (34, Value.int .i64 found.length), (35, Value.int .i64 i)]) (fun ⟨i, vo⟩ w' => (i ≤ found.length) ∧ Own nob w w' [bnR bb9 vc9 vu9 vn9 cz9 (mks b day found cz9) (cnz b day found cz9), vec EI vo (((mks b day found cz9).take i).map (certO cz9 (cnz b day found cz9)))]) (0, .slice none 0 0) ⟨rfl, rfl, rfl, rfl, trivial⟩ ⟨Nat.zero_le _, (S11.pick [1, 2] (by decide) rfl)⟩ ?_
 rintro ⟨i, vo⟩ ρ w1 ⟨hi, S1⟩ IH
 refine r_seq ?_
 refine r_region ?_
 refine l_x rfl (x_lss rfl rfl) ?_
 refine l_nil ?_
 refine r_seq ?_
 refine r_ifd rfl (fun hc36 => ?_) (fun hc36 => ?_)
 ·skip
  obtain ⟨t, hm9⟩ : ∃ t, (mks b day found cz9)[i]? = some t := ⟨_, List.getElem?_eq_getElem (by rw [mks_len]; omega)⟩
  have ht9 := List.mem_of_getElem? hm9
  refine r_skip ?_
  refine r_seq ?_
  refine r_block ?_
  refine r_seq ?_
  refine r_region ?_
  refine l_m rfl ?_
  refine l_a rfl ?_
  refine l_nil ?_
  refine r_seq ?_
  refine r_region ?_
  refine l_a rfl ?_
  refine l_a rfl ?_
  refine l_nil ?_
  refine r_seq ?_
  refine r_seq ?_
  refine r_region ?_
  refine l_a rfl ?_
  refine l_nil ?_
  refine r_block ?_
  refine r_loop (G := Nat) (fun k => cz9.length + 1 - k) (fun k => [(10, .pointer (some ⟨bb9, 0, none⟩)), (12, vo), (13, Value.int .i64 i), (14, Value.int .i64 (lastO cz9 (okP cz9 (cnz b day found cz9) t k))), (15, Value.int .i64 ((okP cz9 (cnz b day found cz9) t k).length : Nat)), (16, Value.int .i64 ((k : Int) - 1)), (34, Value.int .i64 found.length), (35, Value.int .i64 i)]) (fun k w' => (k ≤ cz9.length + 1) ∧ Own nob w w' [bnR bb9 vc9 vu9 vn9 cz9 (mks b day found cz9) (cnz b day found cz9), vec EI vo (((mks b day found cz9).take i).map (certO cz9 (cnz b day found cz9)))]) 0 ⟨rfl, rfl, rfl, rfl, rfl, rfl, rfl, rfl, trivial⟩ ⟨Nat.zero_le _, (S1.take 2)⟩ ?_
  rintro k ρ w1b ⟨hk, S1b⟩ IHb
  refine r_seq ?_
  refine r_seq ?_
  refine r_region ?_
  refine l_m rfl ?_
  refine l_m rfl ?_
  refine l_x rfl (x_nilCheck rfl) ?_
  refine l_x rfl (x_fieldAddr rfl Tryz.runUnderlying130 rfl Tryz.sizeOf51 (by decide)) ?_
  refine l_x rfl (x_load rfl (ld_blk ((bn_of (S1b.ro 0 rfl)).blk) Tryz.isAgg51 rfl)) ?_
  refine l_x rfl (x_len ((bn_of (S1b.ro 0 rfl)).rc) rfl Tryz.runUnderlying51) ?_
  refine l_x rfl (x_lss rfl rfl) ?_
  refine l_nil ?_
  refine r_ifd rfl (fun hc44 => ?_) (fun hc44 => ?_)
  ·skip
   have hol := ok_len (cz := cz9) (cn := (cnz b day found cz9)) (t := t) (k := k)
   have hz10 := hbo.l
   refine r_skip ?_
   refine r_seq ?_
   refine r_block ?_
   refine r_seq ?_
   refine r_region ?_
   refine l_m rfl ?_
   refine l_m rfl ?_
   refine l_m rfl ?_
   refine l_call [] [] [_, _, _, _] rfl rfl Tryz.call92 rfl (c_triedF bb9 vc9 vu9 vn9 cz9 (mks b day found cz9) (cnz b day found cz9) i k t (mks b day found cz9) hm9 ht9 hbo (by omega) _ (S1b.lend 0 rfl)) ?_
   rintro _ w12 (⟨ht5012, rfl, hl5012⟩ | ⟨ht5012, rfl, hl5012⟩)
   ·skip
    have S13 := S1b.back 0 rfl hl5012
    refine l_nil ?_
    refine r_true rfl ?_
    refine r_seq ?_
    refine r_region ?_
    refine l_m rfl ?_
    refine l_m rfl ?_
    refine l_call [] [] [_, _] rfl rfl Tryz.call93 rfl (c_ownerK bb9 vc9 vu9 vn9 cz9 (mks b day found cz9) (cnz b day found cz9) k (by omega) _ (bn_of (S13.ro 0 rfl))) ?_
    rintro _ w14 ⟨rfl, hl16⟩
    have S15 := S13.step hl16
    refine l_a rfl ?_
    refine l_nil ?_
    refine r_region ?_
    refine l_m rfl ?_
    refine l_x rfl (x_add rfl rfl (by omega)) ?_
    refine l_a rfl ?_
    refine l_nil ?_
    refine r_inBlock ?_
    refine r_region ?_
    refine l_m rfl ?_
    refine l_x rfl (x_add rfl rfl (by omega)) ?_
    refine l_a rfl ?_
    refine l_nil ?_
    exact IHb (k + 1) _ _ (by omega) ⟨rfl, rfl, rfl, (congrArg (Value.int .i64) (by rw [ok_yes ht5012, last_snoc])), (congrArg (Value.int .i64) (by rw [ok_yes ht5012, List.length_append, List.length_singleton]; omega)), (congrArg (Value.int .i64) (by omega)), rfl, rfl, trivial⟩ ⟨by omega, (S15.take 2)⟩
   have S17 := S1b.back 0 rfl hl5012
   refine l_nil ?_
   refine r_false rfl ?_
   refine r_skip ?_
   refine r_inBlock ?_
   refine r_region ?_
   refine l_m rfl ?_
   refine l_x rfl (x_add rfl rfl (by omega)) ?_
   refine l_a rfl ?_
   refine l_nil ?_
   exact IHb (k + 1) _ _ (by omega) ⟨rfl, rfl, rfl, (congrArg (Value.int .i64) (by rw [ok_no ht5012])), (congrArg (Value.int .i64) (by rw [ok_no ht5012])), (congrArg (Value.int .i64) (by omega)), rfl, rfl, trivial⟩ ⟨by omega, (S17.take 2)⟩
  obtain rfl : k = cz9.length + 1 := by omega
  refine r_exit rfl ?_
  refine r_seq ?_
  refine r_seq ?_
  refine r_region ?_
  refine l_m rfl ?_
  refine l_x rfl (x_neq rfl rfl) ?_
  refine l_nil ?_
  refine r_ifd rfl (fun hc57 => ?_) (fun hc57 => ?_)
  ·skip
   refine r_region ?_
   refine l_a rfl ?_
   refine l_nil ?_
   refine r_region ?_
   refine l_m rfl ?_
   refine l_m rfl ?_
   refine l_buildSlice EI [_] S1b rfl Tryz.runUnderlying52 Tryz.sizeOf3 Tryz.zeroValue3 rfl ⟨rfl, rfl, trivial⟩ (Nat.le_of_ble_eq_true rfl) ?_
   intro v21 w18 S19 hl20
   refine l_append EI S19 1 rfl rfl rfl rfl (vec_rd (S19.at 2 rfl)) Tryz.underlying52 info3 rfl rfl rfl (by unfold maxLen; rw [List.length_map, List.length_take, List.length_singleton, mks_len]; omega) (by rw [List.length_map, List.length_take, List.length_singleton, mks_len]; show _ * 8 ≤ _; omega) ?_
   intro v25 w22 S23 hk24 hv26
   refine l_a rfl ?_
   refine l_nil ?_
   refine r_inBlock ?_
   refine r_region ?_
   refine l_x rfl (x_add rfl rfl (by omega)) ?_
   refine l_m rfl ?_
   refine l_nil ?_
   exact IH (i + 1, v25) _ _ (by dsimp only; omega) ⟨rfl, rfl, rfl, rfl, trivial⟩ ⟨by omega, (by have h := S23.take 2; rw [cert_no hm9 hc57] at h; exact h)⟩
  refine r_skip ?_
  refine r_region ?_
  refine l_m rfl ?_
  refine l_m rfl ?_
  refine l_buildSlice EI [_] S1b rfl Tryz.runUnderlying52 Tryz.sizeOf3 Tryz.zeroValue3 rfl ⟨rfl, rfl, trivial⟩ (Nat.le_of_ble_eq_true rfl) ?_
  intro v30 w27 S28 hl29
  refine l_append EI S28 1 rfl rfl rfl rfl (vec_rd (S28.at 2 rfl)) Tryz.underlying52 info3 rfl rfl rfl (by unfold maxLen; rw [List.length_map, List.length_take, List.length_singleton, mks_len]; omega) (by rw [List.length_map, List.length_take, List.length_singleton, mks_len]; show _ * 8 ≤ _; omega) ?_
  intro v34 w31 S32 hk33 hv35
  refine l_a rfl ?_
  refine l_nil ?_
  refine r_inBlock ?_
  refine r_region ?_
  refine l_x rfl (x_add rfl rfl (by omega)) ?_
  refine l_m rfl ?_
  refine l_nil ?_
  exact IH (i + 1, v34) _ _ (by dsimp only; omega) ⟨rfl, rfl, rfl, rfl, trivial⟩ ⟨by omega, (by have h := S32.take 2; rw [cert_yes hm9 (by omega)] at h; exact h)⟩
 obtain rfl : i = (mks b day found cz9).length := by rw [mks_len]; omega
 refine r_exit rfl ?_
 refine r_seq ?_
 refine r_region ?_
 refine l_m rfl ?_
 refine l_a rfl ?_
 refine l_a rfl ?_
 refine l_nil ?_
 refine r_ret (rs := [.tmp 8, .tmp 9]) [_, _] Tryz.func48 rfl ⟨rfl, rfl, trivial⟩ ?_
 exact .inr (.inr ⟨cz9, _, hb9, hp9, hs9, by simpa using hc29, rfl, by have h := S1.new 1 rfl; rw [List.take_length] at h; exact h, S1.le⟩)

end Go.Proofs

namespace Go.Proofs
open Go Go.Vk Go.Vk.Flow

open Go.Vk.Mark
open Go.Vk.Deed (i64 rng rng_iff owners sumI sumI_cons sumI_snoc)
open Go.Vk.Deed (cmpI)

theorem c_CompareL (la lb : List Int) (va vb : Value) (hma : la.length ≤ 1000) (hmb : lb.length ≤ 1000) (w : World) (hA : Rd EI w va la) (hB : Rd EI w vb lb) :
  Cl Tryz.prog 177 #[va, vb] w fun v w' => v = .int .i64 (cmpL la lb) ∧ Le w w' := by
 refine fn_of_run (args := [_, _]) 36 Tryz.func177 rfl rfl rfl fun cs => ?_
 have S := Own.start (X := nob) w
 refine r_seq ?_
 refine r_region ?_
 refine l_a rfl ?_
 refine l_nil ?_
 refine r_seq ?_
 refine r_seq ?_
 refine r_region ?_
 refine l_m rfl ?_
 refine l_x rfl (x_len (hA.le S.le) rfl Tryz.runUnderlying52) ?_
 refine l_m rfl ?_
 refine l_nil ?_
 refine r_block ?_
 refine r_loop (G := Nat) (fun i => la.length - i) (fun i => [(0, va), (1, vb), (9, va), (10, Value.int .i64 la.length), (11, Value.int .i64 i)]) (fun i w' => (i ≤ la.length) ∧ (i ≤ lb.length) ∧ (cmpL la lb = cmpL (la.drop i) (lb.drop i)) ∧ Own nob w w' []) 0 ⟨rfl, rfl, rfl, rfl, rfl, trivial⟩ ⟨Nat.zero_le _, Nat.zero_le _, rfl, S⟩ ?_
 rintro i ρ w1 ⟨hi, hj, he, S1⟩ IH
 refine r_seq ?_
 refine r_region ?_
 refine l_x rfl (x_lss rfl rfl) ?_
 refine l_nil ?_
 refine r_seq ?_
 refine r_ifd rfl (fun hc12 => ?_) (fun hc12 => ?_)
 ·skip
  obtain ⟨x, hx⟩ : ∃ x, la[i]? = some x := ⟨_, List.getElem?_eq_getElem (by omega)⟩
  refine r_skip ?_
  refine r_seq ?_
  refine r_block ?_
  refine r_seq ?_
  refine r_region ?_
  refine l_m rfl ?_
  refine l_index EI rfl (hA.le S1.le) rfl rfl Tryz.runUnderlying52 Tryz.sizeOf3 (by omega) hx ?_
  intro b1 o2 hat3 row4
  refine l_x rfl (x_load rfl (ld_cell Tryz.isAgg3 (row4 0 _ rfl))) ?_
  refine l_a rfl ?_
  refine l_a rfl ?_
  refine l_nil ?_
  refine r_seq ?_
  refine r_seq ?_
  refine r_region ?_
  refine l_m rfl ?_
  refine l_m rfl ?_
  refine l_x rfl (x_len (hB.le S1.le) rfl Tryz.runUnderlying52) ?_
  refine l_x rfl (x_geq rfl rfl) ?_
  refine l_nil ?_
  refine r_ifd rfl (fun hc19 => ?_) (fun hc19 => ?_)
  ·skip
   refine r_seq ?_
   refine r_region ?_
   refine l_a rfl ?_
   refine l_nil ?_
   refine r_ret (rs := [.tmp 4]) [_] Tryz.func177 rfl ⟨rfl, trivial⟩ ?_
   exact ⟨congrArg (Value.int .i64) (he.trans (cmp_over hx (by omega))).symm, S1.le⟩
  obtain ⟨y, hy⟩ : ∃ y, lb[i]? = some y := ⟨_, List.getElem?_eq_getElem (by omega)⟩
  refine r_skip ?_
  refine r_seq ?_
  refine r_region ?_
  refine l_m rfl ?_
  refine l_m rfl ?_
  refine l_index EI rfl (hB.le S1.le) rfl rfl Tryz.runUnderlying52 Tryz.sizeOf3 (by omega) hy ?_
  intro b5 o6 hat7 row8
  refine l_x rfl (x_load rfl (ld_cell Tryz.isAgg3 (row8 0 _ rfl))) ?_
  refine l_a rfl ?_
  refine l_nil ?_
  refine r_seq ?_
  refine r_region ?_
  refine l_m rfl ?_
  refine l_m rfl ?_
  refine l_call [] [] [_, _] rfl rfl Tryz.call146 rfl (c_Compare _ _ _) ?_
  rintro _ w9 ⟨rfl, hl11⟩
  have S10 := S1.step hl11
  refine l_a rfl ?_
  refine l_nil ?_
  refine r_seq ?_
  refine r_region ?_
  refine l_m rfl ?_
  refine l_x rfl (x_neq rfl rfl) ?_
  refine l_nil ?_
  refine r_ifd rfl (fun hc28 => ?_) (fun hc28 => ?_)
  ·skip
   refine r_seq ?_
   refine r_region ?_
   refine l_m rfl ?_
   refine l_a rfl ?_
   refine l_nil ?_
   refine r_ret (rs := [.tmp 4]) [_] Tryz.func177 rfl ⟨rfl, trivial⟩ ?_
   exact ⟨congrArg (Value.int .i64) (he.trans (cmp_ne hx hy hc28)).symm, S10.le⟩
  refine r_skip ?_
  refine r_inBlock ?_
  refine r_region ?_
  refine l_x rfl (x_add rfl rfl (by omega)) ?_
  refine l_m rfl ?_
  refine l_nil ?_
  exact IH (i + 1) _ _ (by omega) ⟨rfl, rfl, rfl, rfl, rfl, trivial⟩ ⟨by omega, by omega, he.trans (cmp_eq hx hy (Decidable.not_not.1 hc28)), S10⟩
 obtain rfl : i = la.length := by omega
 refine r_exit rfl ?_
 refine r_seq ?_
 refine r_seq ?_
 refine r_region ?_
 refine l_m rfl ?_
 refine l_x rfl (x_len (hA.le S1.le) rfl Tryz.runUnderlying52) ?_
 refine l_m rfl ?_
 refine l_x rfl (x_len (hB.le S1.le) rfl Tryz.runUnderlying52) ?_
 refine l_x rfl (x_lss rfl rfl) ?_
 refine l_nil ?_
 refine r_ifd rfl (fun hc35 => ?_) (fun hc35 => ?_)
 ·skip
  refine r_seq ?_
  refine r_region ?_
  refine l_a rfl ?_
  refine l_nil ?_
  refine r_ret (rs := [.tmp 4]) [_] Tryz.func177 rfl ⟨rfl, trivial⟩ ?_
  exact ⟨congrArg (Value.int .i64) (he.trans (cmp_end (by omega))).symm, S1.le⟩
 refine r_skip ?_
 refine r_seq ?_
 refine r_region ?_
 refine l_a rfl ?_
 refine l_nil ?_
 refine r_ret (rs := [.tmp 4]) [_] Tryz.func177 rfl ⟨rfl, trivial⟩ ?_
 exact ⟨congrArg (Value.int .i64) (he.trans (cmp_same (by omega) (by omega))).symm, S1.le⟩

theorem or_step {x y z : Int} {i : Nat} (hz : ∀ q, q < i → ([x, y] : List Int)[q]? = some 0) (hx : ([x, y] : List Int)[i]? = some z) (h0 : z = 0) : ∀ q, q < i + 1 → ([x, y] : List Int)[q]? = some 0 := fun q hq => by
 rcases Nat.lt_or_ge q i with g | g
 ·exact hz q g
 rw [show q = i by omega, hx, h0]
theorem or_at {x y z : Int} {i : Nat} (hx : ([x, y] : List Int)[i]? = some z) (hn : z ≠ 0) (hz : ∀ q, q < i → ([x, y] : List Int)[q]? = some 0) (hi : i < 2) : z = if x = 0 then y else x := by
 match i, hi with
 | 0, _ => simp at hx; subst hx; rw [if_neg hn]
 | 1, _ => have := hz 0 (by omega); simp at hx this; rw [if_pos this, hx]

theorem c_Or (x y : Int) (va : Value) (w : World) (hA : Rd EI w va [x, y]) :
  Cl Tryz.prog 176 #[va] w fun v w' => v = .int .i64 (if x = 0 then y else x) ∧ Le w w' := by
 refine fn_of_run (args := [_]) 18 Tryz.func176 rfl rfl rfl fun cs => ?_
 have S := Own.start (X := nob) w
 refine r_seq ?_
 refine r_region ?_
 refine l_a rfl ?_
 refine l_nil ?_
 refine r_seq ?_
 refine r_region ?_
 refine l_a rfl ?_
 refine l_nil ?_
 refine r_seq ?_
 refine r_seq ?_
 refine r_region ?_
 refine l_m rfl ?_
 refine l_x rfl (x_len (hA.le S.le) rfl Tryz.runUnderlying52) ?_
 refine l_m rfl ?_
 refine l_nil ?_
 refine r_block ?_
 refine r_loop (G := Nat) (fun i => 2 - i) (fun i => [(3, Value.int .i64 0), (6, va), (7, Value.int .i64 2), (8, Value.int .i64 i)]) (fun i w' => (i ≤ 2) ∧ (∀ q, q < i → ([x, y] : List Int)[q]? = some 0) ∧ Own nob w w' []) 0 ⟨rfl, rfl, rfl, rfl, trivial⟩ ⟨Nat.zero_le _, fun q h => absurd h (Nat.not_lt_zero q), S⟩ ?_
 rintro i ρ w1 ⟨hi, hz, S1⟩ IH
 refine r_seq ?_
 refine r_region ?_
 refine l_x rfl (x_lss rfl rfl) ?_
 refine l_nil ?_
 refine r_seq ?_
 refine r_ifd rfl (fun hc9 => ?_) (fun hc9 => ?_)
 ·skip
  obtain ⟨z, hx⟩ : ∃ z, ([x, y] : List Int)[i]? = some z := ⟨_, List.getElem?_eq_getElem (by simp; omega)⟩
  refine r_skip ?_
  refine r_seq ?_
  refine r_block ?_
  refine r_seq ?_
  refine r_region ?_
  refine l_index EI rfl (hA.le S1.le) rfl rfl Tryz.runUnderlying52 Tryz.sizeOf3 (by omega) hx ?_
  intro b1 o2 hat3 row4
  refine l_x rfl (x_load rfl (ld_cell Tryz.isAgg3 (row4 0 _ rfl))) ?_
  refine l_a rfl ?_
  refine l_nil ?_
  refine r_seq ?_
  refine r_region ?_
  refine l_m rfl ?_
  refine l_m rfl ?_
  refine l_x rfl (x_neq rfl rfl) ?_
  refine l_nil ?_
  refine r_ifd rfl (fun hc14 => ?_) (fun hc14 => ?_)
  ·skip
   refine r_seq ?_
   refine r_region ?_
   refine l_m rfl ?_
   refine l_a rfl ?_
   refine l_nil ?_
   refine r_ret (rs := [.tmp 2]) [_] Tryz.func176 rfl ⟨rfl, trivial⟩ ?_
   exact ⟨congrArg (Value.int .i64) (or_at hx hc14 hz (by omega)), S1.le⟩
  refine r_skip ?_
  refine r_inBlock ?_
  refine r_region ?_
  refine l_x rfl (x_add rfl rfl (by omega)) ?_
  refine l_m rfl ?_
  refine l_nil ?_
  exact IH (i + 1) _ _ (by omega) ⟨rfl, rfl, rfl, rfl, trivial⟩ ⟨by omega, or_step hz hx (Decidable.not_not.1 hc14), S1⟩
 obtain rfl : i = 2 := by omega
 have h0 := hz 0 (by omega)
 have h1 := hz 1 (by omega)
 simp at h0 h1
 refine r_exit rfl ?_
 refine r_seq ?_
 refine r_region ?_
 refine l_m rfl ?_
 refine l_a rfl ?_
 refine l_nil ?_
 refine r_ret (rs := [.tmp 2]) [_] Tryz.func176 rfl ⟨rfl, trivial⟩ ?_
 exact ⟨congrArg (Value.int .i64) (by rw [h0, h1]; rfl), S1.le⟩

theorem c_compared (la lb : List Int) (va vb : Value) (hma : la.length ≤ 1000) (hmb : lb.length ≤ 1000) (w : World) (hA : Rd EI w va la) (hB : Rd EI w vb lb) :
  Cl Tryz.prog 115 #[va, vb] w fun v w' => v = .int .i64 (cmp3 la lb) ∧ Le w w' := by
 refine fn_of_run (args := [_, _]) 15 Tryz.func115 rfl rfl rfl fun cs => ?_
 have S := Own.start (X := nob) w
 refine r_seq ?_
 refine r_region ?_
 refine l_a rfl ?_
 refine l_nil ?_
 refine r_seq ?_
 refine r_region ?_
 refine l_m rfl ?_
 refine l_x rfl (x_len (hA.le S.le) rfl Tryz.runUnderlying52) ?_
 refine l_m rfl ?_
 refine l_x rfl (x_len (hB.le S.le) rfl Tryz.runUnderlying52) ?_
 refine l_call [] [] [_, _] rfl rfl Tryz.call146 rfl (c_Compare _ _ _) ?_
 rintro _ w1 ⟨rfl, hl3⟩
 have S2 := S.step hl3
 refine l_m rfl ?_
 refine l_m rfl ?_
 refine l_call [] [] [_, _] rfl rfl Tryz.call177 rfl (c_CompareL la lb _ _ hma hmb _ (hA.le S2.le) (hB.le S2.le)) ?_
 rintro _ w4 ⟨rfl, hl6⟩
 have S5 := S2.step hl6
 refine l_buildSlice EI [cmpI la.length lb.length, cmpL la lb] S5 rfl Tryz.runUnderlying52 Tryz.sizeOf3 Tryz.zeroValue3 rfl ⟨rfl, rfl, rfl, rfl, trivial⟩ (Nat.le_of_ble_eq_true rfl) ?_
 intro v10 w7 S8 hl9
 refine l_call [] [] [_] rfl rfl Tryz.call176 rfl (c_Or (cmpI la.length lb.length) (cmpL la lb) _ _ (vec_rd (S8.at 0 rfl))) ?_
 rintro _ w11 ⟨rfl, hl13⟩
 have S12 := S8.step hl13
 refine l_a rfl ?_
 refine l_nil ?_
 refine r_ret (rs := [.tmp 4]) [_] Tryz.func115 rfl ⟨rfl, trivial⟩ ?_
 exact ⟨rfl, S12.le⟩

end Go.Proofs

namespace Go.Proofs
open Go Go.Vk Go.Vk.Flow

open Go.Vk.Mark
open Go.Vk.Deed (i64 rng rng_iff owners sumI sumI_cons sumI_snoc)
open Go.Vk.Deed (cmpI)

theorem x_tab8 {P : Program} {E : Operand → Value} {w : World} {ty T : TypeId} {x y : Operand} {a : Nat} {s : ByteArray} (hz : s.size = 256) (hx : E x = .string s) (hy : E y = .int .u16 (a : Int)) (hu : ∀ w, (underlying T).run P w = .ok .string w) (ha : a < 256) : X P E (.index T x y) ty w (.int .u8 ((s.data.getD a 0).toNat : Int)) w := by
 have h := x_idxstr (P := P) (w := w) (ty := ty) (T := T) hx hy hu (by omega) (by rw [hz, Int.toNat_natCast]; exact ha)
 rw [Int.toNat_natCast] at h
 exact h

theorem c_ones (s : Nat) (hs : s < 1024) (w : World) :
  Cl Tryz.prog 113 #[Value.int .u16 ((s : Nat) : Int)] w fun v w' => v = .int .i64 (popN s : Nat) ∧ Le w w' := by
 have hA8 : s / 2 ^ 8 < 256 := by omega
 have hB8 : s &&& 255 < 256 := Nat.lt_of_le_of_lt Nat.and_le_right (by decide)
 have ha8 := tab8_bd hA8
 have hb8 := tab8_bd hB8
 refine fn_of_run (args := [_]) 11 Tryz.func113 rfl rfl rfl fun cs => ?_
 have S := Own.start (X := nob) w
 refine r_seq ?_
 refine r_region ?_
 refine l_a rfl ?_
 refine l_nil ?_
 refine r_seq ?_
 refine r_drawR 9 Tryz.mixed (by kernel_rfl) ?_
 refine w_x rfl (fun w1 h1 => x_mv rfl) ?_
 refine w_x rfl (fun w1 h1 => x_shr (a := s) (n := 8) rfl rfl (by decide)) ?_
 refine w_x rfl (fun w1 h1 => x_tab8 (a := s / 2 ^ 8) (s := tab8) tab8_size (by kernel_rfl) rfl Tryz.runUnderlying9 hA8) ?_
 refine w_x rfl (fun w1 h1 => x_mv rfl) ?_
 refine w_x rfl (fun w1 h1 => x_and (a := s) (c := 255) rfl rfl (show s < 32768 by omega) (by decide)) ?_
 refine w_x rfl (fun w1 h1 => x_tab8 (a := s &&& 255) (s := tab8) tab8_size (by kernel_rfl) rfl Tryz.runUnderlying9 hB8) ?_
 refine w_x rfl (fun w1 h1 => x_add8 rfl rfl (ones_bd8 ha8 hb8)) ?_
 refine w_x rfl (fun w1 h1 => x_convert rfl Tryz.runUnderlying5 Tryz.runUnderlying3 (i64_in (ones_bd ha8 hb8))) ?_
 refine w_x rfl (fun w1 h1 => x_as rfl) ?_
 refine w_nil ?_
 intro w1 hl2
 have S3 := S.step hl2
 refine l_nil ?_
 refine r_ret (rs := [.tmp 2]) [_] Tryz.func113 rfl ⟨rfl, trivial⟩ ?_
 exact ⟨congrArg (Value.int .i64) (by rw [← tab8_pop (s := s) (by omega)]; exact (Int.natCast_add (tab8N (s / 2 ^ 8)) (tab8N (s &&& 255))).symm), S3.le⟩

set_option maxHeartbeats 20000000 in
theorem c_Shortage (b : Sm) (vm vf : Value) (day : Int) (found : List Sg) (vs : Value) (cs9 : List Clm) (vq : Value) (hm : found.length ≤ 9223372036854775807) (hmc : cs9.length ≤ 9223372036854775807) (hsg : ∀ t ∈ found, SgOk t) (w : World) (hB : SmR 39 41 w vm vf b) (hF : Rd ESG w vs found) (hC : Rd ECL w vq cs9) :
  Cl Tryz.prog 44 #[.agg #[vm, vf], Value.int .i64 day, vs, vq] w fun v w' => (∃ e, e ≠ 0 ∧ v = .tuple #[.slice none 0 0, .bool false, .int .i64 e] ∧ e = beginE b day true found cs9 ∧ Le w w') ∨ (∃ cz s is, beginE b day true found cs9 = 0 ∧ cz.Perm cs9 ∧ SortedL (fun x y : Clm => cmpI x.owner y.owner) cz ∧ v = .tuple #[s, .bool is, .int .i64 0] ∧ is = (bestS cz (shP cz (cnz b day found cz) (2 ^ cz.length))).isSome ∧ New w w' (vec EI s ((bestS cz (shP cz (cnz b day found cz) (2 ^ cz.length))).getD [])) ∧ Le w w') := by
 refine fn_of_run (args := [_, _, _, _]) 60 Tryz.func44 rfl rfl rfl fun cs => ?_
 have S := Own.start (X := nob) w
 refine r_seq ?_
 refine r_region ?_
 refine l_box S rfl rfl ?_
 intro b4 w1 S2 hl3
 refine l_a rfl ?_
 refine l_a rfl ?_
 refine l_a rfl ?_
 refine l_nil ?_
 refine r_seq ?_
 refine r_region ?_
 refine l_x rfl (x_load rfl (ld_blks (S2.blk 0 rfl) Tryz.isAgg25 Tryz.sizeOf25 rfl rfl)) ?_
 refine l_m rfl ?_
 refine l_m rfl ?_
 refine l_m rfl ?_
 refine l_call [] [] [_, _, _, _, _] rfl rfl Tryz.call89 rfl (c_seated b vm vf day found _ cs9 _ true hm hmc hsg _ (hB.le S2.le) (hF.le S2.le) (hC.le S2.le)) ?_
 rintro _ w5 (⟨e9, hne9, rfl, he9, hl235⟩ | ⟨bb9, vc9, vu9, vn9, cz9, rfl, hb9, hp9', hs9', hN235, hl235⟩)
 ·skip
  have S6 := S2.step hl235
  refine l_m rfl ?_
  refine l_x rfl (x_extract rfl rfl) ?_
  refine l_x rfl (x_extract rfl rfl) ?_
  refine l_alloc S6 rfl Tryz.zeroValue124 rfl ?_
  intro b10 w7 S8 hl9
  refine l_storeq (c' := [_]) S8 1 rfl rfl rfl rfl rfl Tryz.sizeOf124 (by first | (simp; done) | exact Nat.le_of_ble_eq_true rfl) rfl ?_
  intro w11 S12 hk13
  refine l_a rfl ?_
  refine l_nil ?_
  refine r_seq ?_
  refine r_seq ?_
  refine r_region ?_
  refine l_m rfl ?_
  refine l_x rfl (x_neq rfl rfl) ?_
  refine l_nil ?_
  refine r_ifd rfl (fun hc27 => ?_) (fun hc27 => ?_)
  ·skip
   refine r_seq ?_
   refine r_region ?_
   refine l_m rfl ?_
   refine l_a rfl ?_
   refine l_a rfl ?_
   refine l_a rfl ?_
   refine l_nil ?_
   refine r_ret (rs := [.tmp 8, .tmp 9, .tmp 10]) [_, _, _] Tryz.func44 rfl ⟨rfl, rfl, rfl, trivial⟩ ?_
   exact .inl ⟨e9, hne9, rfl, he9, S12.le⟩
  exact absurd hne9 hc27
 have S14 := S2.add hl235 hN235
 have hbo := bench_ok hb9 hp9'
 have hf60 := bench_len hb9
 refine l_m rfl ?_
 refine l_x rfl (x_extract rfl rfl) ?_
 refine l_x rfl (x_extract rfl rfl) ?_
 refine l_alloc S14 rfl Tryz.zeroValue124 rfl ?_
 intro b18 w15 S16 hl17
 refine l_storeq (c' := [_]) S16 2 rfl rfl rfl rfl rfl Tryz.sizeOf124 (by first | (simp; done) | exact Nat.le_of_ble_eq_true rfl) rfl ?_
 intro w19 S20 hk21
 refine l_a rfl ?_
 refine l_nil ?_
 refine r_seq ?_
 refine r_seq ?_
 refine r_region ?_
 refine l_m rfl ?_
 refine l_x rfl (x_neq rfl rfl) ?_
 refine l_nil ?_
 refine r_ifd rfl (fun hc27 => ?_) (fun hc27 => ?_)
 ·exact absurd rfl hc27
 refine r_skip ?_
 refine r_seq ?_
 have hN9 := bn_of (S20.ro 1 rfl)
 have hX9 := S20.blk 2 rfl
 have hL9 := S20.le
 have S22 := Own.start (X := nob) w19
 refine r_region ?_
 refine l_alloc S22 rfl Tryz.zeroValue52 rfl ?_
 intro b26 w23 S24 hl25
 have S27 := S24.nilvec (E := EI)
 refine l_nil ?_
 refine r_seq ?_
 refine r_region ?_
 refine l_x rfl (x_load rfl (ld_blk (hX9.keep S27.le id) Tryz.isAgg124 rfl)) ?_
 refine l_x rfl (x_nilCheck rfl) ?_
 refine l_x rfl (x_fieldAddr rfl Tryz.runUnderlying130 rfl Tryz.sizeOf51 (by decide)) ?_
 refine l_x rfl (x_load rfl (ld_blk (hN9.blk.keep S27.le id) Tryz.isAgg51 rfl)) ?_
 refine l_x rfl (x_len (hN9.rc.le S27.le) rfl Tryz.runUnderlying51) ?_
 refine l_x rfl (x_add rfl rfl (by have := hbo.l; omega)) ?_
 refine l_alloc S27 rfl Tryz.zeroValue3 rfl ?_
 intro b31 w28 S29 hl30
 refine l_storeq (c' := [_]) S29 2 rfl rfl rfl rfl rfl Tryz.sizeOf3 (by first | (simp; done) | exact Nat.le_of_ble_eq_true rfl) rfl ?_
 intro w32 S33 hk34
 refine l_nil ?_
 refine r_seq ?_
 refine r_seq ?_
 refine r_region ?_
 refine l_x rfl (x_load rfl (ld_blk (hX9.keep S33.le id) Tryz.isAgg124 rfl)) ?_
 refine l_x rfl (x_func rfl rfl) ?_
 refine l_nil ?_
 refine r_block ?_
 refine r_rangeFunc [_] [] S33 rfl rfl Tryz.call112 ?_
 intro D35 l36 w37 S38 hl39
 have S40 : Own _ _ _ [_, _, _, _, _] := S38.pick [0, 1, 2, 3, 4] (by decide) rfl
 have S41 := Own.pack (A := []) (L := [_, _, _, _, _]) S40
 refine (c_short bb9 vc9 vu9 vn9 cz9 (mks b day found cz9) (cnz b day found cz9) hbo.l hbo.b hbo.n hbo.c _ nob w19 (fun _ hk => hN9.le hk) (fun l9 r => ∃ (p9 : Option Addr) (n9 c9 : Nat), p9.isNone = (bestS cz9 l9).isNone ∧ r = pack [blk b26 [.slice p9 n9 c9] 52, vec EI (.slice p9 n9 c9) ((bestS cz9 l9).getD []), blk b31 [.int .i64 (leastO cz9 (bestS cz9 l9))] 3, _, _] ∧ ∀ b, r.fp b → w19.heap.size ≤ b) (fun _ _ => False) ?_ _ ⟨none, 0, 0, rfl, rfl, fun b hb => (S41.bd 0 _ rfl b hb).2.elim id (fun h => h.elim)⟩ _ S41).mono ?_
 ·skip
  rintro l9 _ s9 w1 ⟨p9, n9, c9, hp9, rfl, hfp⟩ hl9 hs9 hz9 hK hS
  have S42 := hS.open
  have hs10 : s9 < 1024 := Nat.lt_of_lt_of_le hs9 (Nat.le_trans (Nat.pow_le_pow_right (n := 2) (by omega) hbo.l) (by decide))
  refine yl_of_run (S42.obj 4 rfl) rfl (fun c cs => ?_)
  refine r_region ?_
  refine l_a rfl ?_
  refine l_nil ?_
  refine r_beginRound S42 4 rfl rfl ?_
  intro w43 S44 hk45
  refine r_block ?_
  refine r_seq ?_
  refine r_seq ?_
  refine r_region ?_
  refine l_m rfl ?_
  refine l_call [] [] [_] rfl rfl Tryz.call113 rfl (c_ones s9 hs10 _) ?_
  rintro _ w46 ⟨rfl, hl48⟩
  have S47 := S44.step hl48
  refine l_a rfl ?_
  refine l_nil ?_
  refine r_seq ?_
  refine r_region ?_
  refine l_m rfl ?_
  refine l_x rfl (x_load rfl (ld_blk (S47.blk 2 rfl) Tryz.isAgg3 rfl)) ?_
  refine l_x rfl (x_gtr rfl rfl) ?_
  refine l_nil ?_
  refine r_ifd rfl (fun hc42 => ?_) (fun hc42 => ?_)
  ·skip
   refine r_exit rfl ?_
   refine r_roundEnd S47 4 rfl ?_
   intro w49 S50
   have hC := (S50.take 5).close
   exact ⟨true, _, rfl, fun _ => ⟨p9, n9, c9, by rw [best_skip hs9 hbo.l hc42]; exact hp9, by rw [best_skip hs9 hbo.l hc42]; rfl, fun b hb => (hC.bd 0 _ rfl b hb).2.elim (fun h => Nat.le_trans hK.size h) (hfp b)⟩, nofun, hC⟩
  refine r_skip ?_
  refine r_seq ?_
  refine r_region ?_
  refine l_x rfl (x_load rfl (ld_blk (hX9.keep (S47.old hK hfp) id) Tryz.isAgg124 rfl)) ?_
  refine l_m rfl ?_
  refine l_call [] [] [_, _] rfl rfl Tryz.call114 rfl (c_benchOwners bb9 vc9 vu9 vn9 cz9 (mks b day found cz9) (cnz b day found cz9) s9 hs10 hbo.l _ (hN9.le (S47.old hK hfp))) ?_
  rintro v4551 w51 ⟨hN4551, hl4551⟩
  have S52 := S47.add hl4551 hN4551
  refine l_a rfl ?_
  refine l_nil ?_
  refine r_seq ?_
  refine r_region ?_
  refine l_x rfl (x_load rfl (ld_blk (S52.blk 0 rfl) Tryz.isAgg52 rfl)) ?_
  refine l_x rfl (x_eqnil rfl rfl Tryz.runUnderlying52) ?_
  refine l_m rfl ?_
  refine l_split (d := 48) rfl (fun hg48 => ?_) (fun hg48 => ?_)
  ·skip
   refine l_pass rfl ?_
   refine l_pass rfl ?_
   refine l_pass rfl ?_
   refine l_pass rfl ?_
   refine l_x rfl (x_pick_t rfl rfl) ?_
   refine l_nil ?_
   refine r_true rfl ?_
   obtain ⟨p8, c8, hv8, hf8⟩ := rd_form (vec_rd (S52.at 5 rfl))
   subst hv8
   refine r_region ?_
   refine l_m rfl ?_
   refine l_m rfl ?_
   refine l_x rfl (x_len (vec_rd (S52.at 5 rfl)) rfl Tryz.runUnderlying52) ?_
   refine l_storeq (c' := [_]) (v := (.slice p8 (lsP cz9 s9 cz9.length).length c8)) S52 0 rfl rfl rfl rfl (Rd.one (vec_rd (S52.at 5 rfl))) Tryz.sizeOf52 (by first | (simp; done) | exact Nat.le_of_ble_eq_true rfl) rfl ?_
   intro w53 S54 hk55
   refine l_storeq (c' := [_]) S54 2 rfl rfl rfl rfl rfl Tryz.sizeOf3 (by first | (simp; done) | exact Nat.le_of_ble_eq_true rfl) rfl ?_
   intro w56 S57 hk58
   refine l_nil ?_
   refine r_inBlock ?_
   refine r_roundEnd S57 4 rfl ?_
   intro w59 S60
   have hbn := best_none (s := s9) (Option.isNone_iff_eq_none.1 (hp9.symm.trans hg48))
   have hC := (S60.pick (L' := [_, _, _, _, _]) [0, 5, 2, 3, 4] (by decide) rfl).close
   exact ⟨true, _, rfl, fun _ => ⟨p8, _, c8, by rw [hbn]; exact hf8 (ls_ne hs9 hz9), by rw [hbn]; rfl, fun b hb => (hC.bd 0 _ rfl b hb).2.elim (fun h => Nat.le_trans hK.size h) (hfp b)⟩, nofun, hC⟩
  refine l_m rfl ?_
  refine l_x rfl (x_load rfl (ld_blk (S52.blk 0 rfl) Tryz.isAgg52 rfl)) ?_
  refine l_call [] [] [_, _] rfl rfl Tryz.call115 rfl (c_compared (lsP cz9 s9 cz9.length) ((bestS cz9 l9).getD []) _ _ (by have := ls_len (cs := cz9) (s := s9) (i := cz9.length); have := hbo.l; omega) (by have := bestS_len (cz := cz9) (l := l9); have := hbo.l; omega) _ (vec_rd (S52.at 5 rfl)) (vec_rd (S52.at 1 rfl))) ?_
  rintro _ w61 ⟨rfl, hl63⟩
  have S62 := S52.step hl63
  refine l_x rfl (x_lss rfl rfl) ?_
  refine l_x rfl (x_pick_f rfl rfl) ?_
  refine l_nil ?_
  refine r_ifd rfl (fun hc53 => ?_) (fun hc53 => ?_)
  ·skip
   obtain ⟨p8, c8, hv8, hf8⟩ := rd_form (vec_rd (S62.at 5 rfl))
   subst hv8
   refine r_region ?_
   refine l_m rfl ?_
   refine l_m rfl ?_
   refine l_x rfl (x_len (vec_rd (S62.at 5 rfl)) rfl Tryz.runUnderlying52) ?_
   refine l_storeq (c' := [_]) (v := (.slice p8 (lsP cz9 s9 cz9.length).length c8)) S62 0 rfl rfl rfl rfl (Rd.one (vec_rd (S62.at 5 rfl))) Tryz.sizeOf52 (by first | (simp; done) | exact Nat.le_of_ble_eq_true rfl) rfl ?_
   intro w64 S65 hk66
   refine l_storeq (c' := [_]) S65 2 rfl rfl rfl rfl rfl Tryz.sizeOf3 (by first | (simp; done) | exact Nat.le_of_ble_eq_true rfl) rfl ?_
   intro w67 S68 hk69
   refine l_nil ?_
   refine r_inBlock ?_
   refine r_roundEnd S68 4 rfl ?_
   intro w70 S71
   have hbn := best_less hc53
   have hC := (S71.pick (L' := [_, _, _, _, _]) [0, 5, 2, 3, 4] (by decide) rfl).close
   exact ⟨true, _, rfl, fun _ => ⟨p8, _, c8, by rw [hbn]; exact hf8 (ls_ne hs9 hz9), by rw [hbn]; rfl, fun b hb => (hC.bd 0 _ rfl b hb).2.elim (fun h => Nat.le_trans hK.size h) (hfp b)⟩, nofun, hC⟩
  refine r_skip ?_
  refine r_inBlock ?_
  refine r_roundEnd S62 4 rfl ?_
  intro w72 S73
  have hbn := best_not (s := s9) (hp9.symm.trans hg48) hc53
  have hC := (S73.take 5).close
  exact ⟨true, _, rfl, fun _ => ⟨p9, n9, c9, by rw [hbn]; exact hp9, by rw [hbn]; rfl, fun b hb => (hC.bd 0 _ rfl b hb).2.elim (fun h => Nat.le_trans hK.size h) (hfp b)⟩, nofun, hC⟩
 rintro _ w74 ⟨_, (⟨p9, n9, c9, hp9, rfl, hfp⟩ | ⟨_, ⟨⟩⟩), hback75⟩
 have S76 := Own.unpack (A := []) (L := [_, _, _, _, _]) hback75
 refine r_endRange S76 4 rfl rfl ?_
 intro w77 S78 hk79
 refine r_inBlock ?_
 refine r_seq ?_
 refine r_drawR 6 Tryz.mixed (by kernel_rfl) ?_
 refine w_x rfl (fun w1 h1 => x_load rfl (ld_blk ((S78.step h1).blk 0 rfl) Tryz.isAgg52 rfl)) ?_
 refine w_x rfl (fun w1 h1 => x_load rfl (ld_blk ((S78.step h1).blk 0 rfl) Tryz.isAgg52 rfl)) ?_
 refine w_x rfl (fun w1 h1 => x_neqnil rfl rfl Tryz.runUnderlying52) ?_
 refine w_x rfl (fun w1 h1 => x_as rfl) ?_
 refine w_x rfl (fun w1 h1 => x_as rfl) ?_
 refine w_x rfl (fun w1 h1 => x_as rfl) ?_
 refine w_nil ?_
 intro w80 hl81
 have S82 := S78.step hl81
 refine l_nil ?_
 refine r_retL rfl ?_
 refine leave_mark S82 3 rfl ?_
 intro w83 S84 hk85
 refine leave_done (rs := [.tmp 8, .tmp 9, .tmp 10]) [_, _, _] Tryz.func44 rfl ⟨rfl, rfl, rfl, trivial⟩ ?_
 exact .inr ⟨cz9, _, _, hb9, hp9', hs9', rfl, by rw [hp9]; cases (bestS cz9 (shP cz9 (cnz b day found cz9) (2 ^ cz9.length))) <;> rfl, ((S84.new 1 rfl).back hL9.size), hL9.trans S84.le⟩

end Go.Proofs

namespace Go.Proofs
open Go Go.Vk Go.Vk.Flow

open Go.Vk.Mark
open Go.Vk.Deed (i64 rng rng_iff owners sumI sumI_cons sumI_snoc)

theorem c_Free1 (bb : Nat) (vm : Value) (mm : Nat) (g : KSg → Option Int) (b : Sm) (day : Int) (s : Sg) (hs : Clr s) (a : Mk) (ha : Clr a.s) (b1 b2 : Nat) (w : World) (hR : BdP w bb vm mm g b day) (h1 : Blk w b1 [.pointer (some ⟨bb, 0, none⟩)] 100) (h2 : Blk w b2 (encSg s) 28) :
  Cl Tryz.prog 75 #[Value.agg (encMk a).toArray, .pointer (some ⟨b1, 0, none⟩), .pointer (some ⟨b2, 0, none⟩)] w fun v w' => v = .bool (alike b s a.s).isNone ∧ Le w w' := by
 refine fn_of_run (args := [_, _, _]) 17 Tryz.func75 rfl rfl rfl fun cs => ?_
 have S := Own.start (X := nob) w
 refine r_seq ?_
 refine r_region ?_
 refine l_box S rfl rfl ?_
 intro b4 w1 S2 hl3
 refine l_a rfl ?_
 refine l_nil ?_
 refine r_seq ?_
 refine r_region ?_
 refine l_x rfl (x_load rfl (ld_blk (h1.keep S2.le id) Tryz.isAgg100 rfl)) ?_
 refine l_x rfl (x_load rfl (ld_blks (h2.keep S2.le id) Tryz.isAgg28 Tryz.sizeOf28 rfl rfl)) ?_
 refine l_x rfl (x_fieldAddr rfl Tryz.runUnderlying39 rfl Tryz.sizeOf28 (by decide)) ?_
 refine l_x rfl (x_load rfl (ld_blks (S2.blk 0 rfl) Tryz.isAgg28 Tryz.sizeOf28 rfl rfl)) ?_
 refine l_call [] [] [_, _, _] rfl rfl Tryz.call76 rfl (c_alike bb vm mm g b day s a.s hs ha _ (hR.le S2.le)) ?_
 rintro _ w5 ⟨rfl, hl7⟩
 have S6 := S2.step hl7
 refine l_m rfl ?_
 refine l_x rfl (x_extract rfl rfl) ?_
 refine l_x rfl (x_extract rfl rfl) ?_
 refine l_alloc S6 rfl Tryz.zeroValue30 rfl ?_
 intro b11 w8 S9 hl10
 refine l_stores (vs := [_, _, _, _, _, _]) S9 1 rfl rfl rfl rfl (ones_cons rfl (ones_cons rfl (ones_cons rfl (ones_cons rfl (ones_cons rfl (ones_cons rfl ones_nil)))))) Tryz.sizeOf30 (by first | exact Nat.le_refl _ | simp) (splice_all rfl) ?_
 intro w12 S13 hk14
 refine l_a rfl ?_
 refine l_nil ?_
 refine r_seq ?_
 refine r_region ?_
 refine l_m rfl ?_
 refine l_x rfl (x_not rfl) ?_
 refine l_a rfl ?_
 refine l_nil ?_
 refine r_ret (rs := [.tmp 4]) [_] Tryz.func75 rfl ⟨rfl, trivial⟩ ?_
 exact ⟨congrArg Value.bool (by cases alike b s a.s <;> rfl), S13.le⟩

set_option maxHeartbeats 2000000 in
theorem c_Free (b : Sm) (vm vf : Value) (day : Int) (w : World) (hB : SmR 39 41 w vm vf b) :
  Cl Tryz.prog 21 #[.agg #[vm, vf], Value.int .i64 day] w fun v w' => (∃ e, e ≠ 0 ∧ v = .tuple #[Value.agg (encSg zeroSg).toArray, .int .i64 e] ∧ e = openE b day true ∧ Le w w') ∨ (∃ n, v = .tuple #[Value.agg (encSg (sgOf n)).toArray, Value.int .i64 0] ∧ openE b day true = 0 ∧ freeN b day = some n ∧ Le w w') ∨ (v = .tuple #[Value.agg (encSg zeroSg).toArray, Value.int .i64 5] ∧ openE b day true = 0 ∧ freeN b day = none ∧ Le w w') := by
 refine fn_of_run (args := [_, _]) 59 Tryz.func21 rfl rfl rfl fun cs => ?_
 have S := Own.start (X := nob) w
 refine r_seq ?_
 refine r_region ?_
 refine l_box S rfl rfl ?_
 intro b4 w1 S2 hl3
 refine l_alloc S2 rfl Tryz.zeroValue30 rfl ?_
 intro b8 w5 S6 hl7
 refine l_a rfl ?_
 refine l_nil ?_
 refine r_scope ?_
 refine r_seq ?_
 refine r_region ?_
 refine l_x rfl (x_load rfl (ld_blks (S6.blk 0 rfl) Tryz.isAgg25 Tryz.sizeOf25 rfl rfl)) ?_
 refine l_m rfl ?_
 refine l_call [] [] [_, _, _] rfl rfl Tryz.call73 rfl (c_opened b vm vf day _ _ (hB.le S6.le)) ?_
 rintro _ w9 (⟨e9, hne9, rfl, he9, hl159⟩ | ⟨bb9, vm9, mm9, g9, rfl, ho9, hK9, hN159, hl159⟩)
 ·skip
  have S10 := S6.step hl159
  refine l_m rfl ?_
  refine l_x rfl (x_extract rfl rfl) ?_
  refine l_x rfl (x_extract rfl rfl) ?_
  refine l_alloc S10 rfl Tryz.zeroValue100 rfl ?_
  intro b14 w11 S12 hl13
  refine l_storeq (c' := [_]) S12 2 rfl rfl rfl rfl rfl Tryz.sizeOf100 (by first | (simp; done) | exact Nat.le_of_ble_eq_true rfl) rfl ?_
  intro w15 S16 hk17
  refine l_a rfl ?_
  refine l_nil ?_
  refine r_seq ?_
  refine r_seq ?_
  refine r_region ?_
  refine l_m rfl ?_
  refine l_x rfl (x_neq rfl rfl) ?_
  refine l_nil ?_
  refine r_ifd rfl (fun hc19 => ?_) (fun hc19 => ?_)
  ·skip
   refine r_seq ?_
   refine r_region ?_
   refine l_x rfl (x_buildS (out := [_, _, _, _, _, _]) (ss := [6]) Tryz.zeroValue30 rfl Tryz.runUnderlying30 ⟨Tryz.sizeOf28, trivial⟩ fill_nil) ?_
   refine l_m rfl ?_
   refine l_stores (vs := [_, _, _, _, _, _]) S16 1 rfl rfl rfl rfl (ones_cons rfl (ones_cons rfl (ones_cons rfl (ones_cons rfl (ones_cons rfl (ones_cons rfl ones_nil)))))) Tryz.sizeOf30 (by first | exact Nat.le_refl _ | simp) (splice_all rfl) ?_
   intro w18 S19 hk20
   refine l_a rfl ?_
   refine l_nil ?_
   refine r_ret (rs := [.cell 4 30, .tmp 5]) [_, _] Tryz.func21 rfl ⟨⟨_, rfl, (ld_blks (S19.blk 1 rfl) Tryz.isAgg30 Tryz.sizeOf30 rfl rfl)⟩, rfl, trivial⟩ ?_
   exact .inl ⟨e9, hne9, rfl, he9, S19.le⟩
  exact absurd hne9 hc19
 have S21 := S6.add hl159 hN159
 refine l_m rfl ?_
 refine l_x rfl (x_extract rfl rfl) ?_
 refine l_x rfl (x_extract rfl rfl) ?_
 refine l_alloc S21 rfl Tryz.zeroValue100 rfl ?_
 intro b25 w22 S23 hl24
 refine l_storeq (c' := [_]) S23 3 rfl rfl rfl rfl rfl Tryz.sizeOf100 (by first | (simp; done) | exact Nat.le_of_ble_eq_true rfl) rfl ?_
 intro w26 S27 hk28
 refine l_a rfl ?_
 refine l_nil ?_
 refine r_seq ?_
 refine r_seq ?_
 refine r_region ?_
 refine l_m rfl ?_
 refine l_x rfl (x_neq rfl rfl) ?_
 refine l_nil ?_
 refine r_ifd rfl (fun hc19 => ?_) (fun hc19 => ?_)
 ·exact absurd rfl hc19
 refine r_skip ?_
 refine r_seq ?_
 refine r_region ?_
 refine l_alloc S27 rfl Tryz.zeroValue28 rfl ?_
 intro b32 w29 S30 hl31
 refine l_nil ?_
 refine r_seq ?_
 refine r_label ?_
 refine r_block ?_
 refine r_loop (G := Nat) (fun n => 15625 - n) (fun n => [(4, .pointer (some ⟨b8, 0, none⟩)), (6, .pointer (some ⟨b25, 0, none⟩)), (8, .pointer (some ⟨b32, 0, none⟩))]) (fun n w' => (n < 15625) ∧ (∀ q, q < n → freeB b day (sgOf q) = false) ∧ Own nob w w' [bdP bb9 vm9 mm9 g9 b day, blk b25 [.pointer (some ⟨bb9, 0, none⟩)] 100, blk b32 (encSg (sgOf n)) 28, blk b8 (encSg zeroSg) 30]) 0 ⟨rfl, rfl, rfl, trivial⟩ ⟨by omega, fun q h => absurd h (Nat.not_lt_zero q), (S30.pick [2, 3, 4, 1] (by decide) rfl)⟩ ?_
 rintro n ρ w1 ⟨hn, hno, S1⟩ IH
 refine r_block ?_
 refine r_seq ?_
 refine r_seq ?_
 refine r_drawR 11 Tryz.mixed (by kernel_rfl) ?_
 refine w_x rfl (fun w1 h1 => x_load rfl (ld_blk ((S1.step h1).blk 1 rfl) Tryz.isAgg100 rfl)) ?_
 refine w_x rfl (fun w1 h1 => x_nilCheck rfl) ?_
 refine w_x rfl (fun w1 h1 => x_fieldAddr rfl Tryz.runUnderlying108 rfl Tryz.sizeOf104 (by decide)) ?_
 refine w_x rfl (fun w1 h1 => x_load rfl (ld_blk ((bd_of ((S1.step h1).ro 0 rfl) hK9).blk) Tryz.isAgg104 rfl)) ?_
 refine w_x rfl (fun w1 h1 => x_load rfl (ld_blks ((S1.step h1).blk 2 rfl) Tryz.isAgg28 Tryz.sizeOf28 rfl rfl)) ?_
 refine w_x rfl (fun w1 h1 => x_lookup2A (k0 := ⟨sgOf n, sgOf_clr.ok⟩) ((bd_of ((S1.step h1).ro 0 rfl) hK9).mp).ok keyA Tryz.runUnderlying104 rfl rfl Tryz.zeroValue3 rfl rfl) ?_
 refine w_x rfl (fun w1 h1 => x_mv rfl) ?_
 refine w_x rfl (fun w1 h1 => x_extract rfl rfl) ?_
 refine w_x rfl (fun w1 h1 => x_extract rfl rfl) ?_
 refine w_x rfl (fun w1 h1 => x_as rfl) ?_
 refine w_x rfl (fun w1 h1 => x_as rfl) ?_
 refine w_nil ?_
 intro w33 hl34
 have S35 := S1.step hl34
 refine l_nil ?_
 refine r_seq ?_
 refine r_region ?_
 refine l_m rfl ?_
 refine l_x rfl (x_not rfl) ?_
 refine l_m rfl ?_
 refine l_split (d := 33) rfl (fun hg33 => ?_) (fun hg33 => ?_)
 ·skip
  refine l_x rfl (x_load rfl (ld_blk (S35.blk 1 rfl) Tryz.isAgg100 rfl)) ?_
  refine l_x rfl (x_nilCheck rfl) ?_
  refine l_x rfl (x_fieldAddr rfl Tryz.runUnderlying108 rfl Tryz.sizeOf22 (by decide)) ?_
  refine l_x rfl (x_load rfl (ld_blk ((bd_of (S35.ro 0 rfl) hK9).blk) Tryz.isAgg22 rfl)) ?_
  refine l_x rfl (x_func rfl rfl) ?_
  refine l_call [] [] [_, _] rfl rfl Tryz.call74 rfl (c_allM _ (force b day) (fun a => (alike b (sgOf n) a.s).isNone) 75 [.pointer (some ⟨b25, 0, none⟩), .pointer (some ⟨b32, 0, none⟩)] (by have := force_len (day := day) hK9.ok; omega) _ ((bd_of (S35.ro 0 rfl) hK9).mr) Tryz.call75 (fun x hx w1 h1 => c_Free1 bb9 vm9 mm9 g9 b day (sgOf n) sgOf_clr x (force_clr hK9.ok hK9.om hx) _ _ w1 (bd_of ((S35.step h1).ro 0 rfl) hK9) ((S35.blk 1 rfl).keep h1 id) ((S35.blk 2 rfl).keep h1 id))) ?_
  rintro _ w36 ⟨rfl, hl38⟩
  have S37 := S35.step hl38
  refine l_x rfl (x_pick_t rfl rfl) ?_
  refine l_nil ?_
  refine r_if rfl (fun hc40 => ?_) (fun hc40 => ?_)
  ·skip
   refine r_seq ?_
   refine r_region ?_
   refine l_x rfl (x_load rfl (ld_blks (S37.blk 2 rfl) Tryz.isAgg28 Tryz.sizeOf28 rfl rfl)) ?_
   refine l_x rfl (x_buildS (out := [_, _, _, _, _, _]) (ss := [6]) Tryz.zeroValue30 rfl Tryz.runUnderlying30 ⟨Tryz.sizeOf28, trivial⟩ (fill_cons rfl rfl rfl (Nat.le_of_ble_eq_true rfl) fill_nil)) ?_
   refine l_stores (vs := [_, _, _, _, _, _]) S37 3 rfl rfl rfl rfl (ones_cons rfl (ones_cons rfl (ones_cons rfl (ones_cons rfl (ones_cons rfl (ones_cons rfl ones_nil)))))) Tryz.sizeOf30 (by first | exact Nat.le_refl _ | simp) (splice_all rfl) ?_
   intro w39 S40 hk41
   refine l_a rfl ?_
   refine l_nil ?_
   refine r_ret (rs := [.cell 4 30, .tmp 5]) [_, _] Tryz.func21 rfl ⟨⟨_, rfl, (ld_blks (S40.blk 3 rfl) Tryz.isAgg30 Tryz.sizeOf30 rfl rfl)⟩, rfl, trivial⟩ ?_
   exact .inr (.inl ⟨n, rfl, ho9, freeN_some hn (by simpa [freeB] using hc40) hno, S40.le⟩)
  have hfb : freeB b day (sgOf n) = false := by simpa [freeB] using hc40
  refine r_skip ?_
  refine r_seq ?_
  refine r_seq ?_
  refine r_region ?_
  refine l_a rfl ?_
  refine l_nil ?_
  refine r_block ?_
  refine r_loop (G := Nat) (fun j => j) (fun j => [(4, .pointer (some ⟨b8, 0, none⟩)), (6, .pointer (some ⟨b25, 0, none⟩)), (8, .pointer (some ⟨b32, 0, none⟩)), (11, Value.int .i64 ((j : Int) - 1))]) (fun j w' => (j ≤ 6) ∧ (∀ k, j ≤ k → k < 6 → (sgOf n).get k = 4) ∧ Own nob w w' [bdP bb9 vm9 mm9 g9 b day, blk b25 [.pointer (some ⟨bb9, 0, none⟩)] 100, blk b32 (encSg (odo n j)) 28, blk b8 (encSg zeroSg) 30]) 6 ⟨rfl, rfl, rfl, rfl, trivial⟩ ⟨Nat.le_refl _, fun k h1 h2 => absurd h1 (by omega), (by have h := S37.take 4; rw [odo_six]; exact h)⟩ ?_
  rintro j ρ w1b ⟨hj, hd, S1b⟩ IHb
  refine r_seq ?_
  refine r_seq ?_
  refine r_region ?_
  refine l_m rfl ?_
  refine l_x rfl (x_geq rfl rfl) ?_
  refine l_nil ?_
  refine r_ifd rfl (fun hc44 => ?_) (fun hc44 => ?_)
  ·skip
   obtain ⟨q, rfl⟩ : ∃ q, j = q + 1 := ⟨j - 1, by omega⟩
   have hqi : ((((q + 1 : Nat) : Int)) - 1).toNat = q := by omega
   refine r_skip ?_
   refine r_seq ?_
   refine r_block ?_
   refine r_seq ?_
   refine r_seq ?_
   refine r_region ?_
   refine l_m rfl ?_
   refine l_x rfl (x_indexAddr_array rfl rfl Tryz.runUnderlying28 Tryz.sizeOf5 (by omega)) ?_
   refine l_x rfl (x_load rfl (ld_blk (S1b.blk 2 rfl) Tryz.isAgg5 (sgb_get (by omega)))) ?_
   refine l_x rfl (x_lss rfl rfl) ?_
   refine l_nil ?_
   refine r_ifd rfl (fun hc50 => ?_) (fun hc50 => ?_)
   ·skip
    have hgx : (odo n (q + 1)).get ((((q + 1 : Nat) : Int)) - 1).toNat = (sgOf n).get q := by rw [hqi, odo_get (by omega)]
    have hgb := (sgOf_clr (n := n)).at (i := q) (by omega)
    rw [hqi, odo_get (by omega)] at hc50
    have hx4 : (sgOf n).get q < 4 := by omega
    have hn1 : n + 1 < 15625 := odo_lt hn (by omega) hx4
    refine r_seq ?_
    refine r_region ?_
    refine l_m rfl ?_
    refine l_x rfl (x_indexAddr_array rfl rfl Tryz.runUnderlying28 Tryz.sizeOf5 (by omega)) ?_
    refine l_x rfl (x_load rfl (ld_blk (S1b.blk 2 rfl) Tryz.isAgg5 (sgb_get (by omega)))) ?_
    refine l_x rfl (x_add8 rfl rfl (by omega)) ?_
    refine l_x rfl (x_indexAddr_array rfl rfl Tryz.runUnderlying28 Tryz.sizeOf5 (by omega)) ?_
    refine l_storeq S1b 2 rfl rfl rfl rfl rfl Tryz.sizeOf5 (sgb_lt (by omega)) (sgb_set (by omega)) ?_
    intro w42 S43 hk44
    refine l_nil ?_
    refine r_exit rfl ?_
    exact IH (n + 1) _ _ (by omega) ⟨rfl, rfl, rfl, trivial⟩ ⟨hn1, no_step (P := fun q => freeB b day (sgOf q)) hno hfb, (by have h := S43.take 4; rw [← odo_next (by omega) hd hx4]; rw [hqi, odo_get (by omega)] at h; exact h)⟩
   rw [hqi, odo_get (by omega)] at hc50
   have hd9 : ∀ k, q ≤ k → k < 6 → (sgOf n).get k = 4 := fun k h1 h2 => by
    rcases Nat.lt_or_ge q k with g | g
    ·exact hd k g h2
    obtain rfl : k = q := by omega
    have := sgOf_clr (n := n).at h2; omega
   refine r_skip ?_
   refine r_region ?_
   refine l_m rfl ?_
   refine l_x rfl (x_indexAddr_array rfl rfl Tryz.runUnderlying28 Tryz.sizeOf5 (by omega)) ?_
   refine l_storeq S1b 2 rfl rfl rfl rfl rfl Tryz.sizeOf5 (sgb_lt (by omega)) (sgb_set (by omega)) ?_
   intro w45 S46 hk47
   refine l_nil ?_
   refine r_inBlock ?_
   refine r_region ?_
   refine l_m rfl ?_
   refine l_x rfl (x_sub rfl rfl (by omega)) ?_
   refine l_a rfl ?_
   refine l_nil ?_
   exact IHb q _ _ (by omega) ⟨rfl, rfl, rfl, (congrArg (Value.int .i64) (by omega)), trivial⟩ ⟨by omega, hd9, (by have h := S46.take 4; rw [hqi, odo_put (by omega)] at h; exact h)⟩
  obtain rfl : j = 0 := by omega
  have hl := odo_last hn fun k hk => hd k (Nat.zero_le _) hk
  refine r_exit rfl ?_
  refine r_seq ?_
  refine r_region ?_
  refine l_x rfl (x_buildS (out := [_, _, _, _, _, _]) (ss := [6]) Tryz.zeroValue30 rfl Tryz.runUnderlying30 ⟨Tryz.sizeOf28, trivial⟩ fill_nil) ?_
  refine l_stores (vs := [_, _, _, _, _, _]) S1b 3 rfl rfl rfl rfl (ones_cons rfl (ones_cons rfl (ones_cons rfl (ones_cons rfl (ones_cons rfl (ones_cons rfl ones_nil)))))) Tryz.sizeOf30 (by first | exact Nat.le_refl _ | simp) (splice_all rfl) ?_
  intro w48 S49 hk50
  refine l_a rfl ?_
  refine l_nil ?_
  refine r_ret (rs := [.cell 4 30, .tmp 5]) [_, _] Tryz.func21 rfl ⟨⟨_, rfl, (ld_blks (S49.blk 3 rfl) Tryz.isAgg30 Tryz.sizeOf30 rfl rfl)⟩, rfl, trivial⟩ ?_
  exact .inr (.inr ⟨rfl, ho9, freeN_none (fun q9 hq9 => (Nat.lt_or_ge q9 n).elim (hno q9) fun g => by rw [show q9 = n by omega]; exact hfb), S49.le⟩)
 have hfb : freeB b day (sgOf n) = false := free_held sgOf_clr ((hK9.hg ⟨sgOf n, sgOf_clr.ok⟩).1 (by simpa using hg33))
 refine l_pass rfl ?_
 refine l_pass rfl ?_
 refine l_pass rfl ?_
 refine l_pass rfl ?_
 refine l_pass rfl ?_
 refine l_pass rfl ?_
 refine l_x rfl (x_pick_f rfl rfl) ?_
 refine l_nil ?_
 refine r_false rfl ?_
 refine r_skip ?_
 refine r_seq ?_
 refine r_seq ?_
 refine r_region ?_
 refine l_a rfl ?_
 refine l_nil ?_
 refine r_block ?_
 refine r_loop (G := Nat) (fun j => j) (fun j => [(4, .pointer (some ⟨b8, 0, none⟩)), (6, .pointer (some ⟨b25, 0, none⟩)), (8, .pointer (some ⟨b32, 0, none⟩)), (11, Value.int .i64 ((j : Int) - 1))]) (fun j w' => (j ≤ 6) ∧ (∀ k, j ≤ k → k < 6 → (sgOf n).get k = 4) ∧ Own nob w w' [bdP bb9 vm9 mm9 g9 b day, blk b25 [.pointer (some ⟨bb9, 0, none⟩)] 100, blk b32 (encSg (odo n j)) 28, blk b8 (encSg zeroSg) 30]) 6 ⟨rfl, rfl, rfl, rfl, trivial⟩ ⟨Nat.le_refl _, fun k h1 h2 => absurd h1 (by omega), (by have h := S35.take 4; rw [odo_six]; exact h)⟩ ?_
 rintro j ρ w1b ⟨hj, hd, S1b⟩ IHb
 refine r_seq ?_
 refine r_seq ?_
 refine r_region ?_
 refine l_m rfl ?_
 refine l_x rfl (x_geq rfl rfl) ?_
 refine l_nil ?_
 refine r_ifd rfl (fun hc44 => ?_) (fun hc44 => ?_)
 ·skip
  obtain ⟨q, rfl⟩ : ∃ q, j = q + 1 := ⟨j - 1, by omega⟩
  have hqi : ((((q + 1 : Nat) : Int)) - 1).toNat = q := by omega
  refine r_skip ?_
  refine r_seq ?_
  refine r_block ?_
  refine r_seq ?_
  refine r_seq ?_
  refine r_region ?_
  refine l_m rfl ?_
  refine l_x rfl (x_indexAddr_array rfl rfl Tryz.runUnderlying28 Tryz.sizeOf5 (by omega)) ?_
  refine l_x rfl (x_load rfl (ld_blk (S1b.blk 2 rfl) Tryz.isAgg5 (sgb_get (by omega)))) ?_
  refine l_x rfl (x_lss rfl rfl) ?_
  refine l_nil ?_
  refine r_ifd rfl (fun hc50 => ?_) (fun hc50 => ?_)
  ·skip
   have hgx : (odo n (q + 1)).get ((((q + 1 : Nat) : Int)) - 1).toNat = (sgOf n).get q := by rw [hqi, odo_get (by omega)]
   have hgb := (sgOf_clr (n := n)).at (i := q) (by omega)
   rw [hqi, odo_get (by omega)] at hc50
   have hx4 : (sgOf n).get q < 4 := by omega
   have hn1 : n + 1 < 15625 := odo_lt hn (by omega) hx4
   refine r_seq ?_
   refine r_region ?_
   refine l_m rfl ?_
   refine l_x rfl (x_indexAddr_array rfl rfl Tryz.runUnderlying28 Tryz.sizeOf5 (by omega)) ?_
   refine l_x rfl (x_load rfl (ld_blk (S1b.blk 2 rfl) Tryz.isAgg5 (sgb_get (by omega)))) ?_
   refine l_x rfl (x_add8 rfl rfl (by omega)) ?_
   refine l_x rfl (x_indexAddr_array rfl rfl Tryz.runUnderlying28 Tryz.sizeOf5 (by omega)) ?_
   refine l_storeq S1b 2 rfl rfl rfl rfl rfl Tryz.sizeOf5 (sgb_lt (by omega)) (sgb_set (by omega)) ?_
   intro w51 S52 hk53
   refine l_nil ?_
   refine r_exit rfl ?_
   exact IH (n + 1) _ _ (by omega) ⟨rfl, rfl, rfl, trivial⟩ ⟨hn1, no_step (P := fun q => freeB b day (sgOf q)) hno hfb, (by have h := S52.take 4; rw [← odo_next (by omega) hd hx4]; rw [hqi, odo_get (by omega)] at h; exact h)⟩
  rw [hqi, odo_get (by omega)] at hc50
  have hd9 : ∀ k, q ≤ k → k < 6 → (sgOf n).get k = 4 := fun k h1 h2 => by
   rcases Nat.lt_or_ge q k with g | g
   ·exact hd k g h2
   obtain rfl : k = q := by omega
   have := sgOf_clr (n := n).at h2; omega
  refine r_skip ?_
  refine r_region ?_
  refine l_m rfl ?_
  refine l_x rfl (x_indexAddr_array rfl rfl Tryz.runUnderlying28 Tryz.sizeOf5 (by omega)) ?_
  refine l_storeq S1b 2 rfl rfl rfl rfl rfl Tryz.sizeOf5 (sgb_lt (by omega)) (sgb_set (by omega)) ?_
  intro w54 S55 hk56
  refine l_nil ?_
  refine r_inBlock ?_
  refine r_region ?_
  refine l_m rfl ?_
  refine l_x rfl (x_sub rfl rfl (by omega)) ?_
  refine l_a rfl ?_
  refine l_nil ?_
  exact IHb q _ _ (by omega) ⟨rfl, rfl, rfl, (congrArg (Value.int .i64) (by omega)), trivial⟩ ⟨by omega, hd9, (by have h := S55.take 4; rw [hqi, odo_put (by omega)] at h; exact h)⟩
 obtain rfl : j = 0 := by omega
 have hl := odo_last hn fun k hk => hd k (Nat.zero_le _) hk
 refine r_exit rfl ?_
 refine r_seq ?_
 refine r_region ?_
 refine l_x rfl (x_buildS (out := [_, _, _, _, _, _]) (ss := [6]) Tryz.zeroValue30 rfl Tryz.runUnderlying30 ⟨Tryz.sizeOf28, trivial⟩ fill_nil) ?_
 refine l_stores (vs := [_, _, _, _, _, _]) S1b 3 rfl rfl rfl rfl (ones_cons rfl (ones_cons rfl (ones_cons rfl (ones_cons rfl (ones_cons rfl (ones_cons rfl ones_nil)))))) Tryz.sizeOf30 (by first | exact Nat.le_refl _ | simp) (splice_all rfl) ?_
 intro w57 S58 hk59
 refine l_a rfl ?_
 refine l_nil ?_
 refine r_ret (rs := [.cell 4 30, .tmp 5]) [_, _] Tryz.func21 rfl ⟨⟨_, rfl, (ld_blks (S58.blk 3 rfl) Tryz.isAgg30 Tryz.sizeOf30 rfl rfl)⟩, rfl, trivial⟩ ?_
 exact .inr (.inr ⟨rfl, ho9, freeN_none (fun q9 hq9 => (Nat.lt_or_ge q9 n).elim (hno q9) fun g => by rw [show q9 = n by omega]; exact hfb), S58.le⟩)

end Go.Proofs

namespace Go.Proofs
open Go Go.Vk Go.Vk.Flow

open Go.Vk.Mark
open Go.Vk.Deed (i64 rng rng_iff owners sumI sumI_cons sumI_snoc)

set_option maxHeartbeats 2000000 in
theorem c_Mistaken (b : Sm) (vm vf : Value) (day : Int) (w : World) (hB : SmR 39 41 w vm vf b) :
  Cl Tryz.prog 25 #[.agg #[vm, vf], Value.int .i64 day] w fun v w' => (∃ e, e ≠ 0 ∧ v = .tuple #[.slice none 0 0, .int .i64 e] ∧ e = openE b day true ∧ Le w w') ∨ (∃ s, v = .tuple #[s, .int .i64 0] ∧ openE b day true = 0 ∧ New w w' (vec EPR s (mistaken b day)) ∧ Le w w') := by
 refine fn_of_run (args := [_, _]) 67 Tryz.func25 rfl rfl rfl fun cs => ?_
 have S := Own.start (X := nob) w
 refine r_seq ?_
 refine r_region ?_
 refine l_box S rfl rfl ?_
 intro b4 w1 S2 hl3
 refine l_a rfl ?_
 refine l_a rfl ?_
 refine l_nil ?_
 refine r_seq ?_
 refine r_region ?_
 refine l_x rfl (x_load rfl (ld_blks (S2.blk 0 rfl) Tryz.isAgg25 Tryz.sizeOf25 rfl rfl)) ?_
 refine l_m rfl ?_
 refine l_call [] [] [_, _, _] rfl rfl Tryz.call73 rfl (c_opened b vm vf day _ _ (hB.le S2.le)) ?_
 rintro _ w5 (⟨e9, hne9, rfl, he9, hl185⟩ | ⟨bb9, vm9, mm9, g9, rfl, ho9, hK9, hN185, hl185⟩)
 ·skip
  have S6 := S2.step hl185
  refine l_m rfl ?_
  refine l_x rfl (x_extract rfl rfl) ?_
  refine l_x rfl (x_extract rfl rfl) ?_
  refine l_a rfl ?_
  refine l_a rfl ?_
  refine l_nil ?_
  refine r_seq ?_
  refine r_seq ?_
  refine r_region ?_
  refine l_m rfl ?_
  refine l_x rfl (x_neq rfl rfl) ?_
  refine l_nil ?_
  refine r_ifd rfl (fun hc22 => ?_) (fun hc22 => ?_)
  ·skip
   refine r_seq ?_
   refine r_region ?_
   refine l_m rfl ?_
   refine l_a rfl ?_
   refine l_a rfl ?_
   refine l_nil ?_
   refine r_ret (rs := [.tmp 4, .tmp 5]) [_, _] Tryz.func25 rfl ⟨rfl, rfl, trivial⟩ ?_
   exact .inl ⟨e9, hne9, rfl, he9, S6.le⟩
  exact absurd hne9 hc22
 have S7 := S2.add hl185 hN185
 refine l_m rfl ?_
 refine l_x rfl (x_extract rfl rfl) ?_
 refine l_x rfl (x_extract rfl rfl) ?_
 refine l_a rfl ?_
 refine l_a rfl ?_
 refine l_nil ?_
 refine r_seq ?_
 refine r_seq ?_
 refine r_region ?_
 refine l_m rfl ?_
 refine l_x rfl (x_neq rfl rfl) ?_
 refine l_nil ?_
 refine r_ifd rfl (fun hc22 => ?_) (fun hc22 => ?_)
 ·exact absurd rfl hc22
 have hfl := force_len (day := day) hK9.ok
 refine r_skip ?_
 refine r_seq ?_
 refine r_region ?_
 refine l_a rfl ?_
 have S8 := S7.nilvec (E := EPR)
 refine l_nil ?_
 refine r_seq ?_
 refine r_seq ?_
 refine r_region ?_
 refine l_m rfl ?_
 refine l_x rfl (x_nilCheck rfl) ?_
 refine l_x rfl (x_fieldAddr rfl Tryz.runUnderlying108 rfl Tryz.sizeOf22 (by decide)) ?_
 refine l_x rfl (x_load rfl (ld_blk ((bd_of (S8.ro 1 rfl) hK9).blk) Tryz.isAgg22 rfl)) ?_
 refine l_x rfl (x_len ((bd_of (S8.ro 1 rfl) hK9).mr) rfl Tryz.runUnderlying22) ?_
 refine l_m rfl ?_
 refine l_nil ?_
 refine r_block ?_
 refine r_loop (G := Nat × Value) (fun ⟨i, vo⟩ => (force b day).length - i) (fun ⟨i, vo⟩ => [(6, .pointer (some ⟨bb9, 0, none⟩)), (8, vo), (27, vm9), (28, Value.int .i64 (force b day).length), (29, Value.int .i64 i)]) (fun ⟨i, vo⟩ w' => (i ≤ (force b day).length) ∧ Own nob w w' [bdP bb9 vm9 mm9 g9 b day, vec EPR vo (misP b day i)]) (0, .slice none 0 0) ⟨rfl, rfl, rfl, rfl, rfl, trivial⟩ ⟨Nat.zero_le _, (S8.pick [1, 2] (by decide) rfl)⟩ ?_
 rintro ⟨i, vo⟩ ρ w1 ⟨hi, S1⟩ IH
 refine r_seq ?_
 refine r_region ?_
 refine l_x rfl (x_lss rfl rfl) ?_
 refine l_nil ?_
 refine r_seq ?_
 refine r_ifd rfl (fun hc30 => ?_) (fun hc30 => ?_)
 ·skip
  obtain ⟨a, ha⟩ : ∃ a, (force b day)[i]? = some a := ⟨_, List.getElem?_eq_getElem (by omega)⟩
  have hml := mis_len (b := b) (day := day) (i := i) hfl
  have hdl : ((force b day).drop (i + 1)).length = (force b day).length - (i + 1) := List.length_drop
  refine r_skip ?_
  refine r_seq ?_
  refine r_block ?_
  refine r_seq ?_
  refine r_region ?_
  refine l_m rfl ?_
  refine l_index EMK rfl ((bd_of (S1.ro 0 rfl) hK9).mr) rfl rfl Tryz.runUnderlying22 Tryz.sizeOf39 (by omega) ha ?_
  intro b9 o10 hat11 row12
  refine l_x rfl (x_load rfl (ld_row Tryz.isAgg39 Tryz.sizeOf39 rfl row12)) ?_
  refine l_alloc S1 rfl Tryz.zeroValue39 rfl ?_
  intro b16 w13 S14 hl15
  refine l_a rfl ?_
  refine l_stores S14 2 rfl rfl rfl rfl (EMK.one _) Tryz.sizeOf39 (by first | exact Nat.le_refl _ | simp) (splice_all rfl) ?_
  intro w17 S18 hk19
  refine l_nil ?_
  refine r_seq ?_
  refine r_region ?_
  refine l_m rfl ?_
  refine l_x rfl (x_nilCheck rfl) ?_
  refine l_x rfl (x_fieldAddr rfl Tryz.runUnderlying108 rfl Tryz.sizeOf22 (by decide)) ?_
  refine l_x rfl (x_load rfl (ld_blk ((bd_of (S18.ro 0 rfl) hK9).blk) Tryz.isAgg22 rfl)) ?_
  refine l_m rfl ?_
  refine l_x rfl (x_add rfl rfl (by omega)) ?_
  refine l_tailR ((bd_of (S18.ro 0 rfl) hK9).mr) rfl rfl rfl Tryz.runUnderlying22 Tryz.sizeOf39 (by omega) ?_
  intro v20 ht21
  refine l_x rfl (x_len (tailR_rd ht21 ((bd_of (S18.ro 0 rfl) hK9).mr)) rfl Tryz.runUnderlying22) ?_
  refine l_m rfl ?_
  refine l_nil ?_
  refine r_block ?_
  refine r_loop (G := Nat × Value) (fun ⟨j, vo2⟩ => ((force b day).drop (i + 1)).length - j) (fun ⟨j, vo2⟩ => [(6, .pointer (some ⟨bb9, 0, none⟩)), (10, .pointer (some ⟨b16, 0, none⟩)), (8, vo2), (27, vm9), (28, Value.int .i64 (force b day).length), (29, Value.int .i64 i), (40, v20), (41, Value.int .i64 ((force b day).drop (i + 1)).length), (42, Value.int .i64 j)]) (fun ⟨j, vo2⟩ w' => (j ≤ ((force b day).drop (i + 1)).length) ∧ Own nob w w' [bdP bb9 vm9 mm9 g9 b day, vec EPR vo2 (misP b day i ++ rowP b a ((force b day).drop (i + 1)) j), blk b16 (encMk a) 39]) (0, vo) ⟨rfl, rfl, rfl, rfl, rfl, rfl, rfl, rfl, rfl, trivial⟩ ⟨Nat.zero_le _, (by have h := S18.pick (L' := [_, _, _]) [0, 1, 2] (by decide) rfl; rw [row_zero, List.append_nil]; exact h)⟩ ?_
  rintro ⟨j, vo2⟩ ρ w1b ⟨hj, S1b⟩ IHb
  refine r_seq ?_
  refine r_region ?_
  refine l_x rfl (x_lss rfl rfl) ?_
  refine l_nil ?_
  refine r_seq ?_
  refine r_ifd rfl (fun hc43 => ?_) (fun hc43 => ?_)
  ·skip
   obtain ⟨n, hn⟩ : ∃ n, ((force b day).drop (i + 1))[j]? = some n := ⟨_, List.getElem?_eq_getElem (by omega)⟩
   have hnm := List.mem_of_mem_drop (List.mem_of_getElem? hn)
   have hrl := row_len (b := b) (m := a) (l := ((force b day).drop (i + 1))) (j := j)
   refine r_skip ?_
   refine r_seq ?_
   refine r_block ?_
   refine r_seq ?_
   refine r_region ?_
   refine l_index EMK rfl (tailR_rd ht21 ((bd_of (S1b.ro 0 rfl) hK9).mr)) rfl rfl Tryz.runUnderlying22 Tryz.sizeOf39 (by omega) hn ?_
   intro b22 o23 hat24 row25
   refine l_x rfl (x_load rfl (ld_row Tryz.isAgg39 Tryz.sizeOf39 rfl row25)) ?_
   refine l_alloc S1b rfl Tryz.zeroValue39 rfl ?_
   intro b29 w26 S27 hl28
   refine l_stores S27 3 rfl rfl rfl rfl (EMK.one _) Tryz.sizeOf39 (by first | exact Nat.le_refl _ | simp) (splice_all rfl) ?_
   intro w30 S31 hk32
   refine l_nil ?_
   refine r_seq ?_
   refine r_region ?_
   refine l_m rfl ?_
   refine l_x rfl (x_fieldAddr rfl Tryz.runUnderlying39 rfl Tryz.sizeOf28 (by decide)) ?_
   refine l_x rfl (x_load rfl (ld_blks (S31.blk 2 rfl) Tryz.isAgg28 Tryz.sizeOf28 rfl rfl)) ?_
   refine l_x rfl (x_fieldAddr rfl Tryz.runUnderlying39 rfl Tryz.sizeOf28 (by decide)) ?_
   refine l_x rfl (x_load rfl (ld_blks (S31.blk 3 rfl) Tryz.isAgg28 Tryz.sizeOf28 rfl rfl)) ?_
   refine l_call [] [] [_, _, _] rfl rfl Tryz.call76 rfl (c_alike bb9 vm9 mm9 g9 b day a.s n.s (force_clr hK9.ok hK9.om (List.mem_of_getElem? ha)) (force_clr hK9.ok hK9.om hnm) _ (bd_of (S31.ro 0 rfl) hK9)) ?_
   rintro _ w33 ⟨rfl, hl35⟩
   have S34 := S31.step hl35
   refine l_m rfl ?_
   refine l_x rfl (x_extract rfl rfl) ?_
   refine l_x rfl (x_extract rfl rfl) ?_
   refine l_alloc S34 rfl Tryz.zeroValue30 rfl ?_
   intro b39 w36 S37 hl38
   refine l_stores S37 4 rfl rfl rfl rfl (ESG.one _) Tryz.sizeOf30 (by first | exact Nat.le_refl _ | simp) (splice_all rfl) ?_
   intro w40 S41 hk42
   refine l_a rfl ?_
   refine l_nil ?_
   refine r_seq ?_
   refine r_region ?_
   refine l_m rfl ?_
   refine l_nil ?_
   refine r_if rfl (fun hc55 => ?_) (fun hc55 => ?_)
   ·skip
    refine r_region ?_
    refine l_m rfl ?_
    refine l_x rfl (x_fieldAddr rfl Tryz.runUnderlying39 rfl Tryz.sizeOf3 (by decide)) ?_
    refine l_x rfl (x_load rfl (ld_blk (S41.blk 2 rfl) Tryz.isAgg3 rfl)) ?_
    refine l_x rfl (x_fieldAddr rfl Tryz.runUnderlying39 rfl Tryz.sizeOf3 (by decide)) ?_
    refine l_x rfl (x_load rfl (ld_blk (S41.blk 3 rfl) Tryz.isAgg3 rfl)) ?_
    refine l_x rfl (x_buildS (out := [_, _]) (ss := [1, 1]) Tryz.zeroValue48 rfl Tryz.runUnderlying48 ⟨Tryz.sizeOf3, Tryz.sizeOf3, trivial⟩ (fill_cons rfl rfl rfl (Nat.le_of_ble_eq_true rfl) (fill_cons rfl rfl rfl (Nat.le_of_ble_eq_true rfl) fill_nil))) ?_
    refine l_buildSlice EPR [(a.owner, n.owner)] S41 rfl Tryz.runUnderlying43 Tryz.sizeOf48 Tryz.zeroValue48 rfl ⟨rfl, rfl, trivial⟩ (Nat.le_of_ble_eq_true rfl) ?_
    intro v46 w43 S44 hl45
    refine l_append EPR S44 1 rfl rfl rfl rfl (vec_rd (S44.at 5 rfl)) Tryz.underlying43 info48 rfl rfl rfl (by unfold maxLen; rw [List.length_append, List.length_singleton]; omega) (by rw [List.length_append, List.length_singleton]; show _ * 16 ≤ _; omega) ?_
    intro v50 w47 S48 hk49 hv51
    refine l_a rfl ?_
    refine l_nil ?_
    refine r_inBlock ?_
    refine r_region ?_
    refine l_x rfl (x_add rfl rfl (by omega)) ?_
    refine l_m rfl ?_
    refine l_nil ?_
    exact IHb (j + 1, v50) _ _ (by dsimp only; omega) ⟨rfl, rfl, rfl, rfl, rfl, rfl, rfl, rfl, rfl, trivial⟩ ⟨by omega, (by have h := S48.take 3; rw [row_yes hn hc55, ← List.append_assoc]; exact h)⟩
   refine r_skip ?_
   refine r_inBlock ?_
   refine r_region ?_
   refine l_x rfl (x_add rfl rfl (by omega)) ?_
   refine l_m rfl ?_
   refine l_nil ?_
   exact IHb (j + 1, vo2) _ _ (by dsimp only; omega) ⟨rfl, rfl, rfl, rfl, rfl, rfl, rfl, rfl, rfl, trivial⟩ ⟨by omega, (by have h := S41.take 3; rw [row_no hn (by simpa using hc55)]; exact h)⟩
  obtain rfl : j = ((force b day).drop (i + 1)).length := by omega
  refine r_exit rfl ?_
  refine r_inBlock ?_
  refine r_region ?_
  refine l_x rfl (x_add rfl rfl (by omega)) ?_
  refine l_m rfl ?_
  refine l_nil ?_
  exact IH (i + 1, vo2) _ _ (by dsimp only; omega) ⟨rfl, rfl, rfl, rfl, rfl, trivial⟩ ⟨by omega, (by have h := S1b.take 2; rw [← mis_step ha rfl]; exact h)⟩
 obtain rfl : i = (force b day).length := by omega
 refine r_exit rfl ?_
 refine r_seq ?_
 refine r_region ?_
 refine l_m rfl ?_
 refine l_a rfl ?_
 refine l_a rfl ?_
 refine l_nil ?_
 refine r_ret (rs := [.tmp 4, .tmp 5]) [_, _] Tryz.func25 rfl ⟨rfl, rfl, trivial⟩ ?_
 exact .inr ⟨_, rfl, ho9, S1.new 1 rfl, S1.le⟩

end Go.Proofs

namespace Go.Proofs
open Go Go.Vk Go.Vk.Flow

open Go.Vk.Mark
open Go.Vk.Deed (i64 rng rng_iff owners sumI sumI_cons sumI_snoc)
open Go.Vk.Deed (cmpI)

theorem take_same {α : Type} {a b : List α} {i : Nat} {x y : α} (hx : a[i]? = some x) (hy : b[i]? = some y) (e : x = y) (h : a.take i = b.take i) : a.take (i + 1) = b.take (i + 1) := by
 rw [List.take_add_one, List.take_add_one, hx, hy, h, e]

theorem c_SameInts (va : Value) (a : List Int) (vb : Value) (b : List Int) (hm : a.length ≤ 9223372036854775807) (w : World) (Ha : Rd EI w va a) (Hb : Rd EI w vb b) :
  Cl Tryz.prog 31 #[va, vb] w fun v w' => v = .bool (decide (a = b)) ∧ Le w w' := by
 refine fn_of_run (args := [_, _]) 26 Tryz.func31 rfl rfl rfl fun cs => ?_
 have S := Own.start (X := nob) w
 refine r_seq ?_
 refine r_region ?_
 refine l_a rfl ?_
 refine l_nil ?_
 refine r_seq ?_
 refine r_seq ?_
 refine r_region ?_
 refine l_m rfl ?_
 refine l_x rfl (x_len (Ha.le S.le) rfl Tryz.runUnderlying52) ?_
 refine l_m rfl ?_
 refine l_x rfl (x_len (Hb.le S.le) rfl Tryz.runUnderlying52) ?_
 refine l_x rfl (x_neq rfl rfl) ?_
 refine l_nil ?_
 refine r_ifd rfl (fun hc10 => ?_) (fun hc10 => ?_)
 ·skip
  refine r_seq ?_
  refine r_region ?_
  refine l_a rfl ?_
  refine l_nil ?_
  refine r_ret (rs := [.tmp 4]) [_] Tryz.func31 rfl ⟨rfl, trivial⟩ ?_
  exact ⟨congrArg Value.bool (decide_eq_false (fun h => by subst h; omega)).symm, S.le⟩
 have hab : a.length = b.length := by omega
 refine r_skip ?_
 refine r_seq ?_
 refine r_seq ?_
 refine r_region ?_
 refine l_a rfl ?_
 refine l_nil ?_
 refine r_block ?_
 refine r_loop (G := Nat) (fun i => a.length - i) (fun i => [(0, va), (1, vb), (5, .int .i64 i)]) (fun i w' => (i ≤ a.length) ∧ (a.take i = b.take i) ∧ Own nob w w' []) 0 ⟨rfl, rfl, rfl, trivial⟩ ⟨Nat.zero_le _, by simp, S⟩ ?_
 rintro i ρ w1 ⟨hi, hs, S1⟩ IH
 refine r_seq ?_
 refine r_seq ?_
 refine r_region ?_
 refine l_m rfl ?_
 refine l_m rfl ?_
 refine l_x rfl (x_len (Ha.le S1.le) rfl Tryz.runUnderlying52) ?_
 refine l_x rfl (x_lss rfl rfl) ?_
 refine l_nil ?_
 refine r_ifd rfl (fun hc14 => ?_) (fun hc14 => ?_)
 ·skip
  obtain ⟨x, hx⟩ : ∃ x, a[i]? = some x := ⟨_, List.getElem?_eq_getElem (by omega)⟩
  obtain ⟨y, hy⟩ : ∃ y, b[i]? = some y := ⟨_, List.getElem?_eq_getElem (by omega)⟩
  refine r_skip ?_
  refine r_seq ?_
  refine r_block ?_
  refine r_seq ?_
  refine r_drawR 9 Tryz.mixed (by kernel_rfl) ?_
  refine w_x rfl (fun w1 h1 => x_mv rfl) ?_
  refine w_x rfl (fun w1 h1 => x_mv rfl) ?_
  refine w_index EI rfl (Ha.le S1.le) rfl rfl Tryz.runUnderlying52 Tryz.sizeOf3 (by omega) (by first | assumption | exact List.getElem?_eq_getElem (by omega)) ?_
  intro b1 o2 hat3 row4
  refine w_x rfl (fun w1 h1 => x_load rfl (ld_cell Tryz.isAgg3 ((row4.le h1) 0 _ rfl))) ?_
  refine w_x rfl (fun w1 h1 => x_mv rfl) ?_
  refine w_x rfl (fun w1 h1 => x_mv rfl) ?_
  refine w_index EI rfl (Hb.le S1.le) rfl rfl Tryz.runUnderlying52 Tryz.sizeOf3 (by omega) (by first | assumption | exact List.getElem?_eq_getElem (by omega)) ?_
  intro b5 o6 hat7 row8
  refine w_x rfl (fun w1 h1 => x_load rfl (ld_cell Tryz.isAgg3 ((row8.le h1) 0 _ rfl))) ?_
  refine w_x rfl (fun w1 h1 => x_neq rfl rfl) ?_
  refine w_nil ?_
  intro w9 hl10
  have S11 := S1.step hl10
  refine l_nil ?_
  refine r_ifd rfl (fun hc25 => ?_) (fun hc25 => ?_)
  ·skip
   refine r_seq ?_
   refine r_region ?_
   refine l_a rfl ?_
   refine l_nil ?_
   refine r_ret (rs := [.tmp 4]) [_] Tryz.func31 rfl ⟨rfl, trivial⟩ ?_
   exact ⟨congrArg Value.bool (decide_eq_false (fun h => by subst h; rw [hx] at hy; exact hc25 (Option.some.inj hy))).symm, S11.le⟩
  have hc25 : x = y := Decidable.not_not.1 hc25
  refine r_skip ?_
  refine r_inBlock ?_
  refine r_region ?_
  refine l_m rfl ?_
  refine l_x rfl (x_add rfl rfl (by omega)) ?_
  refine l_a rfl ?_
  refine l_nil ?_
  exact IH (i + 1) _ _ (by omega) ⟨rfl, rfl, rfl, trivial⟩ ⟨by omega, take_same hx hy hc25 hs, S11⟩
 have hie : i = a.length := by omega
 subst hie
 refine r_exit rfl ?_
 refine r_seq ?_
 refine r_region ?_
 refine l_a rfl ?_
 refine l_nil ?_
 refine r_ret (rs := [.tmp 4]) [_] Tryz.func31 rfl ⟨rfl, trivial⟩ ?_
 exact ⟨congrArg Value.bool (decide_eq_true (by rw [List.take_length] at hs; rw [hs, hab, List.take_length])).symm, S1.le⟩

theorem c_SamePairs (va : Value) (a : List Pr) (vb : Value) (b : List Pr) (hm : a.length ≤ 9223372036854775807) (hoa : ∀ x ∈ a, B64 x.1 ∧ B64 x.2) (hob : ∀ x ∈ b, B64 x.1 ∧ B64 x.2) (w : World) (Ha : Rd EPR w va a) (Hb : Rd EPR w vb b) :
  Cl Tryz.prog 57 #[va, vb] w fun v w' => v = .bool (decide (a = b)) ∧ Le w w' := by
 refine fn_of_run (args := [_, _]) 26 Tryz.func57 rfl rfl rfl fun cs => ?_
 have S := Own.start (X := nob) w
 refine r_seq ?_
 refine r_region ?_
 refine l_a rfl ?_
 refine l_nil ?_
 refine r_seq ?_
 refine r_seq ?_
 refine r_region ?_
 refine l_m rfl ?_
 refine l_x rfl (x_len (Ha.le S.le) rfl Tryz.runUnderlying43) ?_
 refine l_m rfl ?_
 refine l_x rfl (x_len (Hb.le S.le) rfl Tryz.runUnderlying43) ?_
 refine l_x rfl (x_neq rfl rfl) ?_
 refine l_nil ?_
 refine r_ifd rfl (fun hc10 => ?_) (fun hc10 => ?_)
 ·skip
  refine r_seq ?_
  refine r_region ?_
  refine l_a rfl ?_
  refine l_nil ?_
  refine r_ret (rs := [.tmp 4]) [_] Tryz.func57 rfl ⟨rfl, trivial⟩ ?_
  exact ⟨congrArg Value.bool (decide_eq_false (fun h => by subst h; omega)).symm, S.le⟩
 have hab : a.length = b.length := by omega
 refine r_skip ?_
 refine r_seq ?_
 refine r_seq ?_
 refine r_region ?_
 refine l_a rfl ?_
 refine l_nil ?_
 refine r_block ?_
 refine r_loop (G := Nat) (fun i => a.length - i) (fun i => [(0, va), (1, vb), (5, .int .i64 i)]) (fun i w' => (i ≤ a.length) ∧ (a.take i = b.take i) ∧ Own nob w w' []) 0 ⟨rfl, rfl, rfl, trivial⟩ ⟨Nat.zero_le _, by simp, S⟩ ?_
 rintro i ρ w1 ⟨hi, hs, S1⟩ IH
 refine r_seq ?_
 refine r_seq ?_
 refine r_region ?_
 refine l_m rfl ?_
 refine l_m rfl ?_
 refine l_x rfl (x_len (Ha.le S1.le) rfl Tryz.runUnderlying43) ?_
 refine l_x rfl (x_lss rfl rfl) ?_
 refine l_nil ?_
 refine r_ifd rfl (fun hc14 => ?_) (fun hc14 => ?_)
 ·skip
  obtain ⟨x, hx⟩ : ∃ x, a[i]? = some x := ⟨_, List.getElem?_eq_getElem (by omega)⟩
  obtain ⟨y, hy⟩ : ∃ y, b[i]? = some y := ⟨_, List.getElem?_eq_getElem (by omega)⟩
  refine r_skip ?_
  refine r_seq ?_
  refine r_block ?_
  refine r_seq ?_
  refine r_drawR 9 Tryz.mixed (by kernel_rfl) ?_
  refine w_x rfl (fun w1 h1 => x_mv rfl) ?_
  refine w_x rfl (fun w1 h1 => x_mv rfl) ?_
  refine w_index EPR rfl (Ha.le S1.le) rfl rfl Tryz.runUnderlying43 Tryz.sizeOf48 (by omega) (by first | assumption | exact List.getElem?_eq_getElem (by omega)) ?_
  intro b1 o2 hat3 row4
  refine w_x rfl (fun w1 h1 => x_load rfl (ld_row Tryz.isAgg48 Tryz.sizeOf48 rfl (row4.le h1))) ?_
  refine w_x rfl (fun w1 h1 => x_mv rfl) ?_
  refine w_x rfl (fun w1 h1 => x_mv rfl) ?_
  refine w_index EPR rfl (Hb.le S1.le) rfl rfl Tryz.runUnderlying43 Tryz.sizeOf48 (by omega) (by first | assumption | exact List.getElem?_eq_getElem (by omega)) ?_
  intro b5 o6 hat7 row8
  refine w_x rfl (fun w1 h1 => x_load rfl (ld_row Tryz.isAgg48 Tryz.sizeOf48 rfl (row8.le h1))) ?_
  refine w_x rfl (fun w1 h1 => x_neS keyPr (hoa x (List.mem_of_getElem? hx)) (hob y (List.mem_of_getElem? hy)) rfl rfl) ?_
  refine w_nil ?_
  intro w9 hl10
  have S11 := S1.step hl10
  refine l_nil ?_
  refine r_ifd rfl (fun hc25 => ?_) (fun hc25 => ?_)
  ·skip
   refine r_seq ?_
   refine r_region ?_
   refine l_a rfl ?_
   refine l_nil ?_
   refine r_ret (rs := [.tmp 4]) [_] Tryz.func57 rfl ⟨rfl, trivial⟩ ?_
   exact ⟨congrArg Value.bool (decide_eq_false (fun h => by subst h; rw [hx] at hy; exact hc25 (Option.some.inj hy))).symm, S11.le⟩
  have hc25 : x = y := Decidable.not_not.1 hc25
  refine r_skip ?_
  refine r_inBlock ?_
  refine r_region ?_
  refine l_m rfl ?_
  refine l_x rfl (x_add rfl rfl (by omega)) ?_
  refine l_a rfl ?_
  refine l_nil ?_
  exact IH (i + 1) _ _ (by omega) ⟨rfl, rfl, rfl, trivial⟩ ⟨by omega, take_same hx hy hc25 hs, S11⟩
 have hie : i = a.length := by omega
 subst hie
 refine r_exit rfl ?_
 refine r_seq ?_
 refine r_region ?_
 refine l_a rfl ?_
 refine l_nil ?_
 refine r_ret (rs := [.tmp 4]) [_] Tryz.func57 rfl ⟨rfl, trivial⟩ ?_
 exact ⟨congrArg Value.bool (decide_eq_true (by rw [List.take_length] at hs; rw [hs, hab, List.take_length])).symm, S1.le⟩

theorem same_true {α : Type} [DecidableEq α] {v : Value} {la lb : List α} (h : v = .bool (decide (la = lb))) (e : la = lb) : v = .bool true := by subst e; rw [h]; simp
theorem c_SameIntsT (va : Value) (a : List Int) (vb : Value) (b : List Int) (hm : b.length ≤ 9223372036854775807) (e : a = b) (w : World) (Ha : Rd EI w va a) (Hb : Rd EI w vb b) : Cl Tryz.prog 31 #[va, vb] w fun v w' => v = .bool true ∧ Le w w' :=
 (c_SameInts va a vb b (e ▸ hm) w Ha Hb).mono fun v w' h => ⟨same_true h.1 e, h.2⟩
theorem c_SamePairsT (va : Value) (a : List Pr) (vb : Value) (b : List Pr) (hm : b.length ≤ 9223372036854775807) (hb : ∀ x ∈ b, B64 x.1 ∧ B64 x.2) (e : a = b) (w : World) (Ha : Rd EPR w va a) (Hb : Rd EPR w vb b) : Cl Tryz.prog 57 #[va, vb] w fun v w' => v = .bool true ∧ Le w w' :=
 (c_SamePairs va a vb b (e ▸ hm) (e ▸ hb) hb w Ha Hb).mono fun v w' h => ⟨same_true h.1 e, h.2⟩

set_option maxHeartbeats 2000000 in
theorem c_smits  (w : World) :
  Cl Tryz.prog 72 #[] w fun v w' => ∃ vm vf, v = .agg #[vm, vf] ∧ Own nob w w' [vec EMK vm exM, vec EFD vf exF] := by
 refine fn_of_run (args := []) 12 Tryz.func72 rfl rfl rfl fun cs => ?_
 have S := Own.start (X := nob) w
 refine r_seq ?_
 refine r_region ?_
 refine l_alloc S rfl Tryz.zeroValue25 rfl ?_
 intro b4 w1 S2 hl3
 refine l_nil ?_
 refine r_seq ?_
 refine r_region ?_
 refine l_x rfl (x_buildA (out := [_, _, _, _, _, _]) Tryz.zeroValue28 rfl Tryz.runUnderlying28 Tryz.sizeOf5 (fill_cons rfl rfl rfl (Nat.le_of_ble_eq_true rfl) (fill_cons rfl rfl rfl (Nat.le_of_ble_eq_true rfl) (fill_cons rfl rfl rfl (Nat.le_of_ble_eq_true rfl) fill_nil)))) ?_
 refine l_x rfl (x_buildS (out := [_, _, _, _, _, _, _, _, _]) (ss := [1, 1, 1, 6]) Tryz.zeroValue39 rfl Tryz.runUnderlying39 ⟨Tryz.sizeOf3, Tryz.sizeOf3, Tryz.sizeOf3, Tryz.sizeOf28, trivial⟩ (fill_cons rfl rfl rfl (Nat.le_of_ble_eq_true rfl) (fill_cons rfl rfl rfl (Nat.le_of_ble_eq_true rfl) (fill_cons rfl rfl rfl (Nat.le_of_ble_eq_true rfl) fill_nil)))) ?_
 refine l_x rfl (x_buildA (out := [_, _, _, _, _, _]) Tryz.zeroValue28 rfl Tryz.runUnderlying28 Tryz.sizeOf5 (fill_cons rfl rfl rfl (Nat.le_of_ble_eq_true rfl) (fill_cons rfl rfl rfl (Nat.le_of_ble_eq_true rfl) (fill_cons rfl rfl rfl (Nat.le_of_ble_eq_true rfl) fill_nil)))) ?_
 refine l_x rfl (x_buildS (out := [_, _, _, _, _, _, _, _, _]) (ss := [1, 1, 1, 6]) Tryz.zeroValue39 rfl Tryz.runUnderlying39 ⟨Tryz.sizeOf3, Tryz.sizeOf3, Tryz.sizeOf3, Tryz.sizeOf28, trivial⟩ (fill_cons rfl rfl rfl (Nat.le_of_ble_eq_true rfl) (fill_cons rfl rfl rfl (Nat.le_of_ble_eq_true rfl) (fill_cons rfl rfl rfl (Nat.le_of_ble_eq_true rfl) fill_nil)))) ?_
 refine l_x rfl (x_buildA (out := [_, _, _, _, _, _]) Tryz.zeroValue28 rfl Tryz.runUnderlying28 Tryz.sizeOf5 (fill_cons rfl rfl rfl (Nat.le_of_ble_eq_true rfl) (fill_cons rfl rfl rfl (Nat.le_of_ble_eq_true rfl) (fill_cons rfl rfl rfl (Nat.le_of_ble_eq_true rfl) (fill_cons rfl rfl rfl (Nat.le_of_ble_eq_true rfl) fill_nil))))) ?_
 refine l_x rfl (x_buildS (out := [_, _, _, _, _, _, _, _, _]) (ss := [1, 1, 1, 6]) Tryz.zeroValue39 rfl Tryz.runUnderlying39 ⟨Tryz.sizeOf3, Tryz.sizeOf3, Tryz.sizeOf3, Tryz.sizeOf28, trivial⟩ (fill_cons rfl rfl rfl (Nat.le_of_ble_eq_true rfl) (fill_cons rfl rfl rfl (Nat.le_of_ble_eq_true rfl) (fill_cons rfl rfl rfl (Nat.le_of_ble_eq_true rfl) (fill_cons rfl rfl rfl (Nat.le_of_ble_eq_true rfl) fill_nil))))) ?_
 refine l_buildSlice EMK exM S2 rfl Tryz.runUnderlying22 Tryz.sizeOf39 Tryz.zeroValue39 rfl ⟨rfl, rfl, rfl, rfl, rfl, rfl, trivial⟩ (Nat.le_of_ble_eq_true rfl) ?_
 intro v8 w5 S6 hl7
 refine l_x rfl (x_buildS (out := [_, _]) (ss := [1, 1]) Tryz.zeroValue41 rfl Tryz.runUnderlying41 ⟨Tryz.sizeOf5, Tryz.sizeOf5, trivial⟩ (fill_cons rfl rfl rfl (Nat.le_of_ble_eq_true rfl) fill_nil)) ?_
 refine l_x rfl (x_buildS (out := [_, _]) (ss := [1, 1]) Tryz.zeroValue41 rfl Tryz.runUnderlying41 ⟨Tryz.sizeOf5, Tryz.sizeOf5, trivial⟩ (fill_cons rfl rfl rfl (Nat.le_of_ble_eq_true rfl) fill_nil)) ?_
 refine l_buildSlice EFD exF S6 rfl Tryz.runUnderlying23 Tryz.sizeOf41 Tryz.zeroValue41 rfl ⟨rfl, rfl, rfl, rfl, trivial⟩ (Nat.le_of_ble_eq_true rfl) ?_
 intro v12 w9 S10 hl11
 refine l_x rfl (x_buildS (out := [_, _]) (ss := [1, 1]) Tryz.zeroValue25 rfl Tryz.runUnderlying25 ⟨Tryz.sizeOf22, Tryz.sizeOf23, trivial⟩ (fill_cons rfl (Rd.cells (vec_rd (S10.at 1 rfl))) rfl (Nat.le_of_ble_eq_true rfl) (fill_cons rfl (Rd.cells (vec_rd (S10.at 2 rfl))) rfl (Nat.le_of_ble_eq_true rfl) fill_nil))) ?_
 refine l_stores (vs := [_, _]) S10 0 rfl rfl rfl rfl (ones_cons (Rd.one (vec_rd (S10.at 1 rfl))) (ones_cons (Rd.one (vec_rd (S10.at 2 rfl))) ones_nil)) Tryz.sizeOf25 (by first | exact Nat.le_refl _ | simp) (splice_all rfl) ?_
 intro w13 S14 hk15
 refine l_nil ?_
 refine r_ret (rs := [.cell 0 25]) [_] Tryz.func72 rfl ⟨⟨_, rfl, (ld_blks (S14.blk 0 rfl) Tryz.isAgg25 Tryz.sizeOf25 rfl rfl)⟩, trivial⟩ ?_
 exact ⟨_, _, rfl, S14.pick (L' := [_, _]) [1, 2] (by decide) rfl⟩

set_option maxHeartbeats 8000000 in
theorem c_marked  (w : World) (hG : Gl w) :
  Cl Tryz.prog 20 #[] w fun v w' => v = .bool true ∧ Le w w' := by
 refine fn_of_run (args := []) 168 Tryz.func20 rfl rfl rfl fun cs => ?_
 have S := Own.start (X := nob) w
 refine r_seq ?_
 refine r_region ?_
 refine l_a rfl ?_
 refine l_nil ?_
 refine r_seq ?_
 refine r_region ?_
 refine l_call [] [] [] rfl rfl Tryz.call72 rfl (c_smits _) ?_
 rintro _ w1 ⟨vm, vf, rfl, h3⟩
 have S2 := S.join h3
 refine l_alloc S2 rfl Tryz.zeroValue25 rfl ?_
 intro b7 w4 S5 hl6
 refine l_stores (vs := [_, _]) S5 2 rfl rfl rfl rfl (ones_cons (Rd.one (vec_rd (S5.at 0 rfl))) (ones_cons (Rd.one (vec_rd (S5.at 1 rfl))) ones_nil)) Tryz.sizeOf25 (by first | exact Nat.le_refl _ | simp) (splice_all rfl) ?_
 intro w8 S9 hk10
 refine l_nil ?_
 refine r_seq ?_
 have hB := ex_smr (vec_rd (S9.at 0 rfl)) (vec_rd (S9.at 1 rfl))
 have hX9 := S9.blk 2 rfl
 have hL9 := S9.le
 have hG := hG.le hL9
 have S11 := Own.start (X := nob) w8
 refine r_region ?_
 refine l_call [] [] [_] rfl rfl Tryz.call70 rfl ((c_ReadSight exL1 (by decide) _ (hG.le S11.le)).mono (fun v w' h => (⟨h.1.trans (by rw [ex_line1]; rfl), h.2⟩ : v = .tuple #[Value.agg (encSg exS).toArray, .int .i64 0] ∧ Le _ w'))) ?_
 rintro _ w12 ⟨rfl, hl14⟩
 have S13 := S11.step hl14
 refine l_m rfl ?_
 refine l_x rfl (x_extract rfl rfl) ?_
 refine l_x rfl (x_extract rfl rfl) ?_
 refine l_alloc S13 rfl Tryz.zeroValue30 rfl ?_
 intro b18 w15 S16 hl17
 refine l_stores (vs := [_, _, _, _, _, _]) S16 0 rfl rfl rfl rfl (ones_cons rfl (ones_cons rfl (ones_cons rfl (ones_cons rfl (ones_cons rfl (ones_cons rfl ones_nil)))))) Tryz.sizeOf30 (by first | exact Nat.le_refl _ | simp) (splice_all rfl) ?_
 intro w19 S20 hk21
 refine l_a rfl ?_
 refine l_nil ?_
 refine r_seq ?_
 refine r_region ?_
 refine l_call [] [] [_] rfl rfl Tryz.call70 rfl ((c_ReadSight exL2 (by decide) _ (hG.le S20.le)).mono (fun v w' h => (⟨h.1.trans (by rw [ex_line2]; rfl), h.2⟩ : v = .tuple #[Value.agg (encSg exT).toArray, .int .i64 0] ∧ Le _ w'))) ?_
 rintro _ w22 ⟨rfl, hl24⟩
 have S23 := S20.step hl24
 refine l_m rfl ?_
 refine l_x rfl (x_extract rfl rfl) ?_
 refine l_x rfl (x_extract rfl rfl) ?_
 refine l_alloc S23 rfl Tryz.zeroValue30 rfl ?_
 intro b28 w25 S26 hl27
 refine l_stores (vs := [_, _, _, _, _, _]) S26 1 rfl rfl rfl rfl (ones_cons rfl (ones_cons rfl (ones_cons rfl (ones_cons rfl (ones_cons rfl (ones_cons rfl ones_nil)))))) Tryz.sizeOf30 (by first | exact Nat.le_refl _ | simp) (splice_all rfl) ?_
 intro w29 S30 hk31
 refine l_a rfl ?_
 refine l_nil ?_
 refine r_seq ?_
 refine r_region ?_
 refine l_x rfl (x_load rfl (ld_blks (hX9.keep S30.le id) Tryz.isAgg25 Tryz.sizeOf25 rfl rfl)) ?_
 refine l_x rfl (x_load rfl (ld_blks (S30.blk 0 rfl) Tryz.isAgg30 Tryz.sizeOf30 rfl rfl)) ?_
 refine l_call [] [] [_, _, _] rfl rfl Tryz.call40 rfl (c_Owners exB vm vf 0 exS ex_sok _ (hB.le S30.le)) ?_
 rintro _ w32 (⟨e9, hne9, rfl, he9, hl3732⟩ | ⟨s3732, rfl, ho3732, hN3732, hl3732⟩)
 ·exact absurd (he9.trans (by decide +kernel)) hne9
 have S33 := S30.add hl3732 hN3732
 refine l_m rfl ?_
 refine l_x rfl (x_extract rfl rfl) ?_
 refine l_x rfl (x_extract rfl rfl) ?_
 refine l_a rfl ?_
 refine l_a rfl ?_
 refine l_nil ?_
 refine r_seq ?_
 refine r_region ?_
 refine l_x rfl (x_load rfl (ld_blks (hX9.keep S33.le id) Tryz.isAgg25 Tryz.sizeOf25 rfl rfl)) ?_
 refine l_call [] [] [_, _] rfl rfl Tryz.call25 rfl (c_Mistaken exB vm vf 10 _ (hB.le S33.le)) ?_
 rintro _ w34 (⟨e9, hne9, rfl, he9, hl4234⟩ | ⟨s4234, rfl, ho4234, hN4234, hl4234⟩)
 ·exact absurd (he9.trans ex_open10) hne9
 have S35 := S33.add hl4234 hN4234
 refine l_m rfl ?_
 refine l_x rfl (x_extract rfl rfl) ?_
 refine l_x rfl (x_extract rfl rfl) ?_
 refine l_a rfl ?_
 refine l_a rfl ?_
 refine l_nil ?_
 refine r_seq ?_
 refine r_region ?_
 refine l_x rfl (x_load rfl (ld_blks (hX9.keep S35.le id) Tryz.isAgg25 Tryz.sizeOf25 rfl rfl)) ?_
 refine l_call [] [] [_, _] rfl rfl Tryz.call21 rfl (c_Free exB vm vf 0 _ (hB.le S35.le)) ?_
 rintro _ w36 (⟨e9, hne9, rfl, he9, hl4736⟩ | ⟨n9, rfl, ho4736, hn9, hl4736⟩ | ⟨rfl, ho9, hn9, hl4736⟩)
 ·exact absurd (he9.trans ex_open0) hne9
 ·skip
  have hi4736 := Option.some.inj (ex_free.symm.trans hn9)
  subst hi4736
  have S37 := S35.step hl4736
  refine l_m rfl ?_
  refine l_x rfl (x_extract rfl rfl) ?_
  refine l_x rfl (x_extract rfl rfl) ?_
  refine l_alloc S37 rfl Tryz.zeroValue30 rfl ?_
  intro b41 w38 S39 hl40
  refine l_stores (vs := [_, _, _, _, _, _]) S39 4 rfl rfl rfl rfl (ones_cons rfl (ones_cons rfl (ones_cons rfl (ones_cons rfl (ones_cons rfl (ones_cons rfl ones_nil)))))) Tryz.sizeOf30 (by first | exact Nat.le_refl _ | simp) (splice_all rfl) ?_
  intro w42 S43 hk44
  refine l_a rfl ?_
  refine l_nil ?_
  refine r_seq ?_
  refine r_region ?_
  refine l_x rfl (x_load rfl (ld_blks (S43.blk 0 rfl) Tryz.isAgg30 Tryz.sizeOf30 rfl rfl)) ?_
  refine l_x rfl (x_load rfl (ld_blks (S43.blk 0 rfl) Tryz.isAgg30 Tryz.sizeOf30 rfl rfl)) ?_
  refine l_x rfl (x_load rfl (ld_blks (S43.blk 1 rfl) Tryz.isAgg30 Tryz.sizeOf30 rfl rfl)) ?_
  refine l_buildSlice ESG exG S43 rfl Tryz.runUnderlying50 Tryz.sizeOf30 Tryz.zeroValue30 rfl ⟨rfl, rfl, rfl, rfl, rfl, rfl, trivial⟩ (Nat.le_of_ble_eq_true rfl) ?_
  intro v48 w45 S46 hl47
  refine l_a rfl ?_
  refine l_nil ?_
  refine r_seq ?_
  have S49 := S46.pick (L' := [_, _, _, _]) [2, 3, 4, 5] (by decide) rfl
  refine r_forget [(1, .pointer (some ⟨b7, 0, none⟩)), (3, Value.int .i64 0), (5, Value.int .i64 0), (7, Value.int .i64 0), (9, Value.int .i64 0), (11, Value.int .i64 0), (6, s3732), (8, s4234), (10, .pointer (some ⟨b41, 0, none⟩)), (12, v48)] ⟨rfl, rfl, rfl, rfl, rfl, rfl, rfl, rfl, rfl, rfl, trivial⟩ ?_
  intro ρ50
  refine r_region ?_
  refine l_x rfl (x_load rfl (ld_blks (hX9.keep S49.le id) Tryz.isAgg25 Tryz.sizeOf25 rfl rfl)) ?_
  refine l_m rfl ?_
  refine l_x rfl (x_buildS (out := [_, _]) (ss := [1, 1]) Tryz.zeroValue83 rfl Tryz.runUnderlying83 ⟨Tryz.sizeOf3, Tryz.sizeOf3, trivial⟩ (fill_cons rfl rfl rfl (Nat.le_of_ble_eq_true rfl) (fill_cons rfl rfl rfl (Nat.le_of_ble_eq_true rfl) fill_nil))) ?_
  refine l_x rfl (x_buildS (out := [_, _]) (ss := [1, 1]) Tryz.zeroValue83 rfl Tryz.runUnderlying83 ⟨Tryz.sizeOf3, Tryz.sizeOf3, trivial⟩ (fill_cons rfl rfl rfl (Nat.le_of_ble_eq_true rfl) (fill_cons rfl rfl rfl (Nat.le_of_ble_eq_true rfl) fill_nil))) ?_
  refine l_buildSlice ECL exC1 S49 rfl Tryz.runUnderlying51 Tryz.sizeOf83 Tryz.zeroValue83 rfl ⟨rfl, rfl, rfl, rfl, trivial⟩ (Nat.le_of_ble_eq_true rfl) ?_
  intro v54 w51 S52 hl53
  refine l_call [] [] [_, _, _, _] rfl rfl Tryz.call27 rfl (c_Assign exB vm vf 0 exG _ exC1 _ (by decide) (by decide) ex_gok _ (hB.le S52.le) (vec_rd (S52.at 3 rfl)) (vec_rd (S52.at 4 rfl))) ?_
  rintro _ w55 (⟨e9, hne9, rfl, he9, hl6055⟩ | ⟨cz9, hb9, hp9, hs9, hcb9, rfl, hl6055⟩ | ⟨cz6055, s6055, hb6055, hp6055, hs6055, hcb6055, rfl, hN6055, hl6055⟩)
  ·exact absurd (he9.trans ex_begin1) hne9
  ·exact absurd (hcb9.symm.trans (ex_can91 (ex_cz1 hp9 hs9))) (by decide)
  have S56 := S52.add hl6055 hN6055
  refine l_m rfl ?_
  refine l_x rfl (x_extract rfl rfl) ?_
  refine l_x rfl (x_extract rfl rfl) ?_
  refine l_x rfl (x_extract rfl rfl) ?_
  refine l_a rfl ?_
  refine l_a rfl ?_
  refine l_a rfl ?_
  refine l_nil ?_
  refine r_seq ?_
  refine r_region ?_
  refine l_x rfl (x_load rfl (ld_blks (hX9.keep S56.le id) Tryz.isAgg25 Tryz.sizeOf25 rfl rfl)) ?_
  refine l_m rfl ?_
  refine l_x rfl (x_buildS (out := [_, _]) (ss := [1, 1]) Tryz.zeroValue83 rfl Tryz.runUnderlying83 ⟨Tryz.sizeOf3, Tryz.sizeOf3, trivial⟩ (fill_cons rfl rfl rfl (Nat.le_of_ble_eq_true rfl) (fill_cons rfl rfl rfl (Nat.le_of_ble_eq_true rfl) fill_nil))) ?_
  refine l_x rfl (x_buildS (out := [_, _]) (ss := [1, 1]) Tryz.zeroValue83 rfl Tryz.runUnderlying83 ⟨Tryz.sizeOf3, Tryz.sizeOf3, trivial⟩ (fill_cons rfl rfl rfl (Nat.le_of_ble_eq_true rfl) (fill_cons rfl rfl rfl (Nat.le_of_ble_eq_true rfl) fill_nil))) ?_
  refine l_buildSlice ECL exC2 S56 rfl Tryz.runUnderlying51 Tryz.sizeOf83 Tryz.zeroValue83 rfl ⟨rfl, rfl, rfl, rfl, trivial⟩ (Nat.le_of_ble_eq_true rfl) ?_
  intro v60 w57 S58 hl59
  refine l_call [] [] [_, _, _, _] rfl rfl Tryz.call44 rfl (c_Shortage exB vm vf 0 exG _ exC2 _ (by decide) (by decide) ex_gok _ (hB.le S58.le) (vec_rd (S58.at 3 rfl)) (vec_rd (S58.at 6 rfl))) ?_
  rintro _ w61 (⟨e9, hne9, rfl, he9, hl7061⟩ | ⟨cz7061, s7061, is7061, hb7061, hp7061, hs7061, rfl, his7061, hN7061, hl7061⟩)
  ·exact absurd (he9.trans ex_begin2) hne9
  have hi7061 := his7061.trans (ex_best8 (ex_cz2 hp7061 hs7061))
  subst hi7061
  have S62 := S58.add hl7061 hN7061
  refine l_m rfl ?_
  refine l_x rfl (x_extract rfl rfl) ?_
  refine l_x rfl (x_extract rfl rfl) ?_
  refine l_x rfl (x_extract rfl rfl) ?_
  refine l_a rfl ?_
  refine l_a rfl ?_
  refine l_a rfl ?_
  refine l_nil ?_
  refine r_seq ?_
  have S63 := S62.pick (L' := [_, _, _, _, _, _]) [0, 1, 2, 3, 5, 7] (by decide) rfl
  refine r_forget [(1, .pointer (some ⟨b7, 0, none⟩)), (3, Value.int .i64 0), (5, Value.int .i64 0), (7, Value.int .i64 0), (9, Value.int .i64 0), (11, Value.int .i64 0), (15, Value.int .i64 0), (18, Value.int .i64 0), (6, s3732), (8, s4234), (10, .pointer (some ⟨b41, 0, none⟩)), (12, v48), (13, s6055), (14, .bool true), (16, s7061), (17, .bool true)] ⟨rfl, rfl, rfl, rfl, rfl, rfl, rfl, rfl, rfl, rfl, rfl, rfl, rfl, rfl, rfl, rfl, trivial⟩ ?_
  intro ρ64
  refine r_region ?_
  refine l_x rfl (x_load rfl (ld_blks (hX9.keep S63.le id) Tryz.isAgg25 Tryz.sizeOf25 rfl rfl)) ?_
  refine l_m rfl ?_
  refine l_x rfl (x_buildS (out := [_, _]) (ss := [1, 1]) Tryz.zeroValue83 rfl Tryz.runUnderlying83 ⟨Tryz.sizeOf3, Tryz.sizeOf3, trivial⟩ (fill_cons rfl rfl rfl (Nat.le_of_ble_eq_true rfl) (fill_cons rfl rfl rfl (Nat.le_of_ble_eq_true rfl) fill_nil))) ?_
  refine l_x rfl (x_buildS (out := [_, _]) (ss := [1, 1]) Tryz.zeroValue83 rfl Tryz.runUnderlying83 ⟨Tryz.sizeOf3, Tryz.sizeOf3, trivial⟩ (fill_cons rfl rfl rfl (Nat.le_of_ble_eq_true rfl) (fill_cons rfl rfl rfl (Nat.le_of_ble_eq_true rfl) fill_nil))) ?_
  refine l_buildSlice ECL exC3 S63 rfl Tryz.runUnderlying51 Tryz.sizeOf83 Tryz.zeroValue83 rfl ⟨rfl, rfl, rfl, rfl, trivial⟩ (Nat.le_of_ble_eq_true rfl) ?_
  intro v68 w65 S66 hl67
  refine l_call [] [] [_, _, _, _] rfl rfl Tryz.call48 rfl (c_Certain exB vm vf 0 exG _ exC3 _ (by decide) (by decide) ex_gok _ (hB.le S66.le) (vec_rd (S66.at 3 rfl)) (vec_rd (S66.at 6 rfl))) ?_
  rintro _ w69 (⟨e9, hne9, rfl, he9, hl8069⟩ | ⟨cz9, hb9, hp9, hs9, hcb9, rfl, hl8069⟩ | ⟨cz8069, s8069, hb8069, hp8069, hs8069, hcb8069, rfl, hN8069, hl8069⟩)
  ·exact absurd (he9.trans ex_begin3) hne9
  ·exact absurd (hcb9.symm.trans (ex_can93 (ex_cz3 hp9 hs9))) (by decide)
  have S70 := S66.add hl8069 hN8069
  refine l_m rfl ?_
  refine l_x rfl (x_extract rfl rfl) ?_
  refine l_x rfl (x_extract rfl rfl) ?_
  refine l_a rfl ?_
  refine l_a rfl ?_
  refine l_nil ?_
  refine r_seq ?_
  refine r_region ?_
  refine l_x rfl (x_load rfl (ld_blks (hX9.keep S70.le id) Tryz.isAgg25 Tryz.sizeOf25 rfl rfl)) ?_
  refine l_m rfl ?_
  refine l_call [] [] [_, _, _, _] rfl rfl Tryz.call58 rfl (c_Range exB vm vf 0 exG _ 1 (by decide) ex_gok _ (hB.le S70.le) (vec_rd (S70.at 3 rfl))) ?_
  rintro _ w71 (⟨e9, hne9, rfl, he9, hl8671⟩ | ⟨rfl, ho8671, hl8671⟩)
  ·exact absurd (he9.trans (by decide +kernel)) hne9
  have S72 := S70.step hl8671
  refine l_m rfl ?_
  refine l_x rfl (x_extract rfl rfl) ?_
  refine l_x rfl (x_extract rfl rfl) ?_
  refine l_x rfl (x_extract rfl rfl) ?_
  refine l_a rfl ?_
  refine l_a rfl ?_
  refine l_a rfl ?_
  refine l_nil ?_
  refine r_seq ?_
  refine r_seq ?_
  have S73 := S72.pick (L' := [_, _, _, _, _, _]) [0, 1, 2, 4, 5, 7] (by decide) rfl
  refine r_forget [(3, Value.int .i64 0), (5, Value.int .i64 0), (7, Value.int .i64 0), (9, Value.int .i64 0), (11, Value.int .i64 0), (15, Value.int .i64 0), (18, Value.int .i64 0), (20, Value.int .i64 0), (23, Value.int .i64 0), (6, s3732), (8, s4234), (10, .pointer (some ⟨b41, 0, none⟩)), (13, s6055), (14, .bool true), (16, s7061), (17, .bool true), (19, s8069), (21, Value.int .i64 (sureN exB 0 exG 1)), (22, Value.int .i64 (perhapsN exB 0 exG 1))] ⟨rfl, rfl, rfl, rfl, rfl, rfl, rfl, rfl, rfl, rfl, rfl, rfl, rfl, rfl, rfl, rfl, rfl, rfl, rfl, trivial⟩ ?_
  intro ρ74
  refine r_region ?_
  refine l_m rfl ?_
  refine l_x rfl (x_neq rfl rfl) ?_
  refine l_m rfl ?_
  refine l_splitd (d := 92) rfl (fun hg92 => ?_) (fun hg92 => ?_)
  ·exact absurd rfl hg92
  refine l_m rfl ?_
  refine l_x rfl (x_neq rfl rfl) ?_
  refine l_x rfl (x_pick_f rfl rfl) ?_
  refine l_m rfl ?_
  refine l_splitd (d := 96) rfl (fun hg96 => ?_) (fun hg96 => ?_)
  ·exact absurd rfl hg96
  refine l_m rfl ?_
  refine l_x rfl (x_neq rfl rfl) ?_
  refine l_x rfl (x_pick_f rfl rfl) ?_
  refine l_m rfl ?_
  refine l_splitd (d := 100) rfl (fun hg100 => ?_) (fun hg100 => ?_)
  ·exact absurd rfl hg100
  refine l_m rfl ?_
  refine l_x rfl (x_neq rfl rfl) ?_
  refine l_x rfl (x_pick_f rfl rfl) ?_
  refine l_m rfl ?_
  refine l_splitd (d := 104) rfl (fun hg104 => ?_) (fun hg104 => ?_)
  ·exact absurd rfl hg104
  refine l_m rfl ?_
  refine l_x rfl (x_neq rfl rfl) ?_
  refine l_x rfl (x_pick_f rfl rfl) ?_
  refine l_m rfl ?_
  refine l_splitd (d := 108) rfl (fun hg108 => ?_) (fun hg108 => ?_)
  ·exact absurd rfl hg108
  refine l_m rfl ?_
  refine l_x rfl (x_neq rfl rfl) ?_
  refine l_x rfl (x_pick_f rfl rfl) ?_
  refine l_m rfl ?_
  refine l_splitd (d := 112) rfl (fun hg112 => ?_) (fun hg112 => ?_)
  ·exact absurd rfl hg112
  refine l_m rfl ?_
  refine l_x rfl (x_neq rfl rfl) ?_
  refine l_x rfl (x_pick_f rfl rfl) ?_
  refine l_m rfl ?_
  refine l_splitd (d := 116) rfl (fun hg116 => ?_) (fun hg116 => ?_)
  ·exact absurd rfl hg116
  refine l_m rfl ?_
  refine l_x rfl (x_neq rfl rfl) ?_
  refine l_x rfl (x_pick_f rfl rfl) ?_
  refine l_m rfl ?_
  refine l_splitd (d := 120) rfl (fun hg120 => ?_) (fun hg120 => ?_)
  ·exact absurd rfl hg120
  refine l_m rfl ?_
  refine l_x rfl (x_neq rfl rfl) ?_
  refine l_x rfl (x_pick_f rfl rfl) ?_
  refine l_nil ?_
  refine r_ifd rfl (fun hc123 => ?_) (fun hc123 => ?_)
  ·exact absurd rfl hc123
  refine r_skip ?_
  refine r_seq ?_
  have S75 := S73.pick (L' := [_, _, _, _, _, _]) [0, 1, 2, 3, 4, 5] (by decide) rfl
  refine r_forget [(6, s3732), (8, s4234), (10, .pointer (some ⟨b41, 0, none⟩)), (13, s6055), (14, .bool true), (16, s7061), (17, .bool true), (19, s8069), (21, Value.int .i64 (sureN exB 0 exG 1)), (22, Value.int .i64 (perhapsN exB 0 exG 1))] ⟨rfl, rfl, rfl, rfl, rfl, rfl, rfl, rfl, rfl, rfl, trivial⟩ ?_
  intro ρ76
  refine r_region ?_
  refine l_m rfl ?_
  refine l_buildSlice EI [1, 2] S75 rfl Tryz.runUnderlying52 Tryz.sizeOf3 Tryz.zeroValue3 rfl ⟨rfl, rfl, rfl, rfl, trivial⟩ (Nat.le_of_ble_eq_true rfl) ?_
  intro v80 w77 S78 hl79
  refine l_call [] [] [_, _] rfl rfl Tryz.call31 rfl (c_SameIntsT _ _ _ _ (by decide) ex_own1 _ (vec_rd (S78.at 0 rfl)) (vec_rd (S78.at 6 rfl))) ?_
  rintro _ w81 ⟨rfl, hl83⟩
  have S82 := S78.step hl83
  refine l_m rfl ?_
  refine l_m rfl ?_
  refine l_x rfl (x_buildS (out := [_, _]) (ss := [1, 1]) Tryz.zeroValue48 rfl Tryz.runUnderlying48 ⟨Tryz.sizeOf3, Tryz.sizeOf3, trivial⟩ (fill_cons rfl rfl rfl (Nat.le_of_ble_eq_true rfl) (fill_cons rfl rfl rfl (Nat.le_of_ble_eq_true rfl) fill_nil))) ?_
  refine l_buildSlice EPR [(1, 2)] S82 rfl Tryz.runUnderlying43 Tryz.sizeOf48 Tryz.zeroValue48 rfl ⟨rfl, rfl, trivial⟩ (Nat.le_of_ble_eq_true rfl) ?_
  intro v87 w84 S85 hl86
  refine l_call [] [] [_, _] rfl rfl Tryz.call57 rfl (c_SamePairsT _ _ _ _ (by decide) ex_pok ex_mis _ (vec_rd (S85.at 1 rfl)) (vec_rd (S85.at 7 rfl))) ?_
  rintro _ w88 ⟨rfl, hl90⟩
  have S89 := S85.step hl90
  refine l_x rfl (x_pick_t rfl rfl) ?_
  refine l_m rfl ?_
  refine l_x rfl (x_load rfl (ld_blks (S89.blk 2 rfl) Tryz.isAgg30 Tryz.sizeOf30 rfl rfl)) ?_
  refine l_x rfl (x_buildS (out := [_, _, _, _, _, _]) (ss := [6]) Tryz.zeroValue30 rfl Tryz.runUnderlying30 ⟨Tryz.sizeOf28, trivial⟩ fill_nil) ?_
  refine l_x rfl (x_eqS (b := zeroSg) keySi ex_f0ok ex_zok rfl rfl) ?_
  refine l_x rfl (x_pick_t rfl rfl) ?_
  refine l_m rfl ?_
  refine l_splitd (d := 138) rfl (fun hg138 => ?_) (fun hg138 => ?_)
  ·skip
   refine l_m rfl ?_
   refine l_x rfl (x_pick_t rfl rfl) ?_
   refine l_m rfl ?_
   refine l_m rfl ?_
   refine l_buildSlice EI [2, 2, 1] S89 rfl Tryz.runUnderlying52 Tryz.sizeOf3 Tryz.zeroValue3 rfl ⟨rfl, rfl, rfl, rfl, rfl, rfl, trivial⟩ (Nat.le_of_ble_eq_true rfl) ?_
   intro v94 w91 S92 hl93
   refine l_call [] [] [_, _] rfl rfl Tryz.call31 rfl (c_SameIntsT _ _ _ _ (by decide) (ex_asg9 (ex_cz1 hp6055 hs6055)) _ (vec_rd (S92.at 3 rfl)) (vec_rd (S92.at 8 rfl))) ?_
   rintro _ w95 ⟨rfl, hl97⟩
   have S96 := S92.step hl97
   refine l_x rfl (x_pick_t rfl rfl) ?_
   refine l_a rfl ?_
   refine l_nil ?_
   refine r_seq ?_
   have S98 := S96.pick (L' := [_, _]) [4, 5] (by decide) rfl
   refine r_forget [(16, s7061), (17, .bool true), (19, s8069), (21, Value.int .i64 (sureN exB 0 exG 1)), (22, Value.int .i64 (perhapsN exB 0 exG 1)), (24, .bool true)] ⟨rfl, rfl, rfl, rfl, rfl, rfl, trivial⟩ ?_
   intro ρ99
   refine r_region ?_
   refine l_m rfl ?_
   refine l_m rfl ?_
   refine l_m rfl ?_
   refine l_x rfl (x_pick_t rfl rfl) ?_
   refine l_m rfl ?_
   refine l_m rfl ?_
   refine l_buildSlice EI [1, 2] S98 rfl Tryz.runUnderlying52 Tryz.sizeOf3 Tryz.zeroValue3 rfl ⟨rfl, rfl, rfl, rfl, trivial⟩ (Nat.le_of_ble_eq_true rfl) ?_
   intro v103 w100 S101 hl102
   refine l_call [] [] [_, _] rfl rfl Tryz.call31 rfl (c_SameIntsT _ _ _ _ (by decide) (ex_best7 (ex_cz2 hp7061 hs7061)) _ (vec_rd (S101.at 0 rfl)) (vec_rd (S101.at 2 rfl))) ?_
   rintro _ w104 ⟨rfl, hl106⟩
   have S105 := S101.step hl106
   refine l_x rfl (x_pick_t rfl rfl) ?_
   refine l_m rfl ?_
   refine l_m rfl ?_
   refine l_buildSlice EI [0, 0, 1] S105 rfl Tryz.runUnderlying52 Tryz.sizeOf3 Tryz.zeroValue3 rfl ⟨rfl, rfl, rfl, rfl, rfl, rfl, trivial⟩ (Nat.le_of_ble_eq_true rfl) ?_
   intro v110 w107 S108 hl109
   refine l_call [] [] [_, _] rfl rfl Tryz.call31 rfl (c_SameIntsT _ _ _ _ (by decide) (ex_cert9 (ex_cz3 hp8069 hs8069)) _ (vec_rd (S108.at 1 rfl)) (vec_rd (S108.at 3 rfl))) ?_
   rintro _ w111 ⟨rfl, hl113⟩
   have S112 := S108.step hl113
   refine l_x rfl (x_pick_t rfl rfl) ?_
   refine l_m rfl ?_
   refine l_m rfl ?_
   refine l_x rfl (x_eql rfl rfl) ?_
   refine l_x rfl (x_pick_t rfl rfl) ?_
   refine l_m rfl ?_
   refine l_splitd (d := 164) rfl (fun hg164 => ?_) (fun hg164 => ?_)
   ·skip
    refine l_m rfl ?_
    refine l_x rfl (x_eql rfl rfl) ?_
    refine l_x rfl (x_pick_t rfl rfl) ?_
    refine l_a rfl ?_
    refine l_nil ?_
    refine r_ret (rs := [.tmp 0]) [_] Tryz.func20 rfl ⟨rfl, trivial⟩ ?_
    exact ⟨congrArg Value.bool (decide_eq_true ex_perhaps), hL9.trans S112.le⟩
   exact absurd ex_sure hg164
  exact absurd (by decide +kernel) hg138
 rw [ex_free] at hn9; cases hn9

end Go.Proofs
