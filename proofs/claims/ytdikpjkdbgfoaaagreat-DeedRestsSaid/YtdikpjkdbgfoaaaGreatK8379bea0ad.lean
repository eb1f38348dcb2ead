/- Texts joined for claims: F29. -/
import Derived.Test.YtdikpjkdbgfoaaaGreatK3919d05959
import Derived.Test.YtdikpjkdbgfoaaaGreatK5164fc66cb
/-
  Contracts of functions of the program: each by symbolic execution of its text.
-/
namespace Go.Proofs
open Go Go.Vk Go.Vk.Flow

open Go.Vk.Deed
theorem only_dl {rq : List Rw} {is : List Int} : dl (rq.filter fun x => !!is.contains x.1.id) = (dl rq).filter fun x => is.contains x.id := by
  unfold dl; rw [List.filter_map]; congr 1
  exact List.filter_congr fun x _ => by simp

set_option maxHeartbeats 2000000 in
/-- slices.DeleteFunc[[]couchant/api.Deed,couchant/api.Deed]. -/
theorem c_DeleteFunc (v0 : Value) (l : List Rw) (p : Rw → Bool) (kf : Nat) (caps : List Value) (hmx : l.length ≤ 9223372036854775807) (w : World) (hA : DsR 26 3 w v0 l) (he : ∀ args w, (callFunc kf args).run Tryz.prog w = .ok (.enter kf args) w)
    (hf : ∀ x ∈ l, ∀ w1, Keep (vec ED v0 l).fp w w1 → Cl Tryz.prog kf ([Value.agg (encD x).toArray] ++ caps).toArray w1 fun v w2 => v = .bool (p x) ∧ Le w1 w2) (S : Own (vec ED v0 l).fp w w [vec ED v0 l]) :
    Cl Tryz.prog 125 #[v0, .func (.func kf) #[] caps.toArray] w fun v w' => Own (vec ED v0 l).fp w w' [vec ED v (l.filter fun x => !p x)] := by
  refine fn_of_run (args := [_, _]) 42 Tryz.func125 rfl rfl rfl fun cs => ?_
  refine r_seq ?_
  refine r_region ?_
  refine l_x rfl (x_as rfl) ?_
  refine l_nil ?_
  refine r_seq ?_
  refine r_region ?_
  refine l_x rfl (x_mv rfl) ?_
  refine l_x rfl (x_mv rfl) ?_
  refine l_call [] [] [_, _] rfl rfl Tryz.call165 rfl (c_IndexFuncDeed _ l p kf caps hmx _ hA he (fun x hx w1 h1 => hf x hx w1 (S.keep.trans (.of_le h1)))) ?_
  rintro _ w1 ⟨rfl, hl3⟩
  have S2 := S.step hl3
  refine l_x rfl (x_as rfl) ?_
  refine l_nil ?_
  refine r_seq ?_
  refine r_seq ?_
  refine r_region ?_
  refine l_x rfl (x_mv rfl) ?_
  refine l_x rfl (x_eql rfl rfl) ?_
  refine l_nil ?_
  refine r_ifd rfl (fun hc12 => ?_) (fun hc12 => ?_)
  · skip
    refine r_seq ?_
    refine r_region ?_
    refine l_x rfl (x_mv rfl) ?_
    refine l_x rfl (x_as rfl) ?_
    refine l_nil ?_
    refine r_ret (rs := [.tmp 4]) [_] Tryz.func125 rfl ⟨rfl, trivial⟩ ?_
    rw [List.filter_eq_self.2 fun x hx => by simp [idx_neg hc12 x hx]]
    exact S2
  · skip
    refine r_skip ?_
    refine r_seq ?_
    refine r_seq ?_
    obtain ⟨i0, a0, hi0, ha0, hp0, hn0⟩ := idx_pos hc12
    have hi0l := (List.getElem?_eq_some_iff.1 ha0).1
    refine r_slot 5 (.int .i64 (i0 : Int)) (congrArg (Value.int .i64) hi0) ?_
    refine r_region ?_
    refine l_x rfl (x_mv rfl) ?_
    refine l_x rfl (x_add rfl rfl (by omega)) ?_
    refine l_x rfl (x_as rfl) ?_
    refine l_nil ?_
    refine r_block ?_
    refine r_loop (G := Nat × Nat × List Rw) (fun ⟨i, j, l1⟩ => l.length - j) (fun ⟨i, j, l1⟩ => [(0, v0), (1, .func (.func kf) #[] caps.toArray), (5, .int .i64 i), (6, .int .i64 j)]) (fun ⟨i, j, l1⟩ w' => (DelInv p l l1 i j) ∧ Own (vec ED v0 l).fp w w' [vec ED v0 l1]) (i0, i0 + 1, l) ⟨rfl, rfl, rfl, rfl, trivial⟩ ⟨DelInv.start ha0 hp0 hn0, (S2.take 1)⟩ ?_
    rintro ⟨i, j, l1⟩ ρ w1 ⟨hI, S1⟩ IH
    refine r_seq ?_
    refine r_seq ?_
    refine r_region ?_
    refine l_x rfl (x_mv rfl) ?_
    refine l_x rfl (x_mv rfl) ?_
    refine l_x rfl (x_len (vec_rd (S1.at 0 rfl)) rfl Tryz.runUnderlying23) ?_
    refine l_x rfl (x_lss rfl rfl) ?_
    refine l_nil ?_
    refine r_ifd rfl (fun hc19 => ?_) (fun hc19 => ?_)
    · skip
      have hlen := hI.len
      have hle := hI.le
      obtain ⟨a, ha⟩ : ∃ a, l[j]? = some a := ⟨_, List.getElem?_eq_getElem (by omega)⟩
      have ha1 := hI.at ha
      obtain ⟨k1, hk1⟩ : ∃ a, l1[i]? = some a := ⟨_, List.getElem?_eq_getElem (by omega)⟩
      refine r_skip ?_
      refine r_seq ?_
      refine r_block ?_
      refine r_seq ?_
      refine r_region ?_
      refine l_x rfl (x_mv rfl) ?_
      refine l_x rfl (x_mv rfl) ?_
      refine l_index ED rfl (vec_rd (S1.at 0 rfl)) rfl rfl Tryz.runUnderlying23 Tryz.sizeOf26 (by omega) (by first | assumption | exact List.getElem?_eq_getElem (by omega)) ?_
      intro b4 o5 hat6 row7
      refine l_x rfl (x_load rfl (ld_row Tryz.isAgg26 Tryz.sizeOf26 rfl row7)) ?_
      refine l_alloc S1 rfl Tryz.zeroValue26 rfl ?_
      intro b11 w8 S9 hl10
      refine l_stores S9 1 rfl rfl rfl rfl (ED.one _) Tryz.sizeOf26 (by first | exact Nat.le_refl _ | simp) (splice_all rfl) ?_
      intro w12 S13 hk14
      refine l_nil ?_
      refine r_seq ?_
      refine r_region ?_
      refine l_x rfl (x_mv rfl) ?_
      refine l_x rfl (x_load rfl (ld_blks (S13.blk 1 rfl) Tryz.isAgg26 Tryz.sizeOf26 rfl rfl)) ?_
      refine l_call [] caps ([_] ++ caps) rfl rfl he rfl (hf _ (List.mem_of_getElem? ha) _ S13.keep) ?_
      rintro _ w15 ⟨rfl, hl17⟩
      have S16 := S13.step hl17
      refine l_x rfl (x_not rfl) ?_
      refine l_nil ?_
      refine r_if rfl (fun hc29 => ?_) (fun hc29 => ?_)
      · skip
        have hc29 : p a = false := by simpa using hc29
        refine r_seq ?_
        refine r_region ?_
        refine l_x rfl (x_mv rfl) ?_
        refine l_x rfl (x_mv rfl) ?_
        refine l_x rfl (x_load rfl (ld_blks (S16.blk 1 rfl) Tryz.isAgg26 Tryz.sizeOf26 rfl rfl)) ?_
        refine l_index ED rfl (vec_rd (S16.at 0 rfl)) rfl rfl Tryz.runUnderlying23 Tryz.sizeOf26 (by omega) hk1 ?_
        intro b18 o19 hat20 row21
        refine l_storeva (a' := a) S16 0 rfl rfl hat20 rfl rfl Tryz.sizeOf26 hk1 rfl ?_
        intro w22 S23 hk24
        refine l_nil ?_
        refine r_region ?_
        refine l_x rfl (x_mv rfl) ?_
        refine l_x rfl (x_add rfl rfl (by omega)) ?_
        refine l_x rfl (x_as rfl) ?_
        refine l_nil ?_
        refine r_inBlock ?_
        refine r_region ?_
        refine l_x rfl (x_mv rfl) ?_
        refine l_x rfl (x_add rfl rfl (by omega)) ?_
        refine l_x rfl (x_as rfl) ?_
        refine l_nil ?_
        exact IH (i + 1, j + 1, l1.set i a) _ _ (by dsimp only; omega) ⟨rfl, rfl, rfl, rfl, trivial⟩ ⟨hI.keep ha hc29, (S23.take 1)⟩
      · skip
        have hc29 : p a = true := by simpa using hc29
        refine r_skip ?_
        refine r_inBlock ?_
        refine r_region ?_
        refine l_x rfl (x_mv rfl) ?_
        refine l_x rfl (x_add rfl rfl (by omega)) ?_
        refine l_x rfl (x_as rfl) ?_
        refine l_nil ?_
        exact IH (i, j + 1, l1) _ _ (by dsimp only; omega) ⟨rfl, rfl, rfl, rfl, trivial⟩ ⟨hI.drop ha hc29, (S16.take 1)⟩
    · skip
      have hlen := hI.len
      have hle := hI.le
      have hj : j = l.length := by have := hI.lej; omega
      subst hj
      refine r_exit rfl ?_
      refine r_seq ?_
      refine r_region ?_
      refine l_x rfl (x_mv rfl) ?_
      refine l_x rfl (x_mv rfl) ?_
      refine l_tail S1 0 rfl rfl rfl rfl Tryz.runUnderlying23 Tryz.sizeOf26 (by omega) ?_
      intro v25 ht26
      refine l_clearN (a0 := (⟨0, 0, 0, 0, 0, 0, 0, 0, 0, [], []⟩, (none, 0, 0), (none, 0, 0))) S1 0 rfl rfl ht26 rfl Tryz.runUnderlying23 Tryz.zeroValue26 rfl ?_
      intro w27 S28 hk29
      refine l_nil ?_
      refine r_seq ?_
      refine r_region ?_
      refine l_x rfl (x_mv rfl) ?_
      refine l_x rfl (x_mv rfl) ?_
      refine l_prefix S28 0 rfl rfl rfl rfl Tryz.runUnderlying23 Tryz.sizeOf26 (by rw [List.length_append, List.length_take, List.length_replicate]; omega) ?_
      intro v30 S31
      refine l_x rfl (x_as rfl) ?_
      refine l_nil ?_
      refine r_ret (rs := [.tmp 4]) [_] Tryz.func125 rfl ⟨rfl, trivial⟩ ?_
      have hS := S31.take 1
      rw [Int.toNat_natCast, List.take_append_of_le_length (by rw [List.length_take]; omega), List.take_take, Nat.min_self, hI.done] at hS
      exact hS

set_option maxHeartbeats 4000000 in
/-- couchant/deed.Only. -/
theorem c_Only (rs : List Rw) (vl : Value) (known : Int) (day : Int) (is : List Int) (vi : Value) (hmi : is.length ≤ 9223372036854775807) (w : World) (hD : DsR 26 3 w vl rs) (hI : Rd EI w vi is) :
    Cl Tryz.prog 73 #[vl, .int .i64 known, .int .i64 day, vi] w fun v w' => New w w' (vec EAC v (onlyD (dl rs) known day is)) ∧ Le w w' := by
  refine fn_of_run (args := [_, _, _, _]) 23 Tryz.func73 rfl rfl rfl fun cs => ?_
  have S := Own.start (X := nob) w
  refine r_seq ?_
  refine r_region ?_
  refine l_box S rfl (Rd.cells (hI.le S.le)) ?_
  intro b4 w1 S2 hl3
  refine l_x rfl (x_as rfl) ?_
  refine l_nil ?_
  refine r_seq ?_
  refine r_seq ?_
  refine r_region ?_
  refine l_x rfl (x_mv rfl) ?_
  refine l_call [] [] [_] rfl rfl Tryz.call104 rfl (c_right rs _ _ (hD.le S2.le)) ?_
  rintro _ w5 ⟨rfl, hl7⟩
  have S6 := S2.step hl7
  refine l_x rfl (x_not rfl) ?_
  refine l_nil ?_
  refine r_if rfl (fun hc12 => ?_) (fun hc12 => ?_)
  · skip
    have hR : rightD (dl rs) = false := by simpa using hc12
    refine r_seq ?_
    refine r_region ?_
    refine l_x rfl (x_as rfl) ?_
    refine l_nil ?_
    refine r_ret (rs := [.tmp 8]) [_] Tryz.func73 rfl ⟨rfl, trivial⟩ ?_
    exact ⟨by rw [onlyD, if_neg (by simp [hR])]; exact New.nilvec .., S6.le⟩
  · skip
    have hR : rightD (dl rs) = true := by simpa using hc12
    refine r_skip ?_
    refine r_seq ?_
    refine r_region ?_
    refine l_x rfl (x_mv rfl) ?_
    refine l_x rfl (x_mv rfl) ?_
    refine l_call [] [] [_, _] rfl rfl Tryz.call106 rfl (c_counting rs _ known (right_asc hR) (by have := right_len hR; rw [dl_len] at this; exact this) _ (hD.le S6.le)) ?_
    rintro v158 w8 ⟨rq158, hq158, hm158, hN158, hl158⟩
    have S9 := S6.add hl158 hN158
    have hqq := hq158
    have hmq := hm158
    have hlq : rq158.length ≤ 400 := by rw [← dl_len, hq158]; exact count_len hR
    obtain ⟨rq, hrqe⟩ : ∃ q, q = rq158 := ⟨_, rfl⟩
    subst hrqe
    refine l_x rfl (x_func rfl rfl) ?_
    refine l_call [] [] [_, _] rfl rfl Tryz.call125 rfl (c_DeleteFunc _ _ (fun x => !is.contains x.1.id) 126 [_] (by omega) _ (hD.mem (S9).le (vec_rd ((S9).at 1 rfl)) hmq (by omega)) Tryz.call126 (fun x hx w1 h1 => c_Only1 is vi x _ (by omega) w1 ((S9).beside 1 0 rfl rfl (by decide) h1) (hI.le (h1.old (S9).le (fun c hc => ((S9).bd 1 _ rfl c hc).2.resolve_right id)))) ((S9).lend 1 rfl)) ?_
    rintro v10 w11 hb12
    have S13 := S9.back 1 rfl hb12
    refine l_x rfl (x_as rfl) ?_
    refine l_nil ?_
    refine r_seq ?_
    have hPl : PlayL (dl (rq.filter fun x => !!is.contains x.1.id)) := by rw [only_dl, hqq]; exact (right_play hR).filter _
    have hBs : StB (doneD (dl (rq.filter fun x => !!is.contains x.1.id)) day) := by rw [done_play]; exact (play_inv _ rfl (hPl.filter _)).stb (hPl.filter _).e (hPl.filter _).len
    refine r_region ?_
    refine l_x rfl (x_mv rfl) ?_
    refine l_x rfl (x_mv rfl) ?_
    refine l_call [] [] [_, _] rfl rfl Tryz.call127 rfl (c_done (rq.filter fun x => !!is.contains x.1.id) _ day hPl _ (hD.mem (S13).le (vec_rd ((S13).at 1 rfl)) (fun a ha => hmq a (List.mem_filter.1 ha).1) (Nat.le_trans (List.length_filter_le _ _) (by omega)))) ?_
    rintro _ w14 ⟨b19, n20, rfl, h18⟩
    have S15 := S13.join h18
    obtain ⟨hs, pf, sf, hok, S16⟩ := Own.rollOpen (A := [_, _]) S15
    have S17 := S16.pack
    refine l_x rfl (x_mv rfl) ?_
    refine l_call [] [] [_, _] rfl rfl Tryz.call118 rfl (c_accounts _ _ _ hs pf sf _ hBs _ (RollRO.mk hok (S17.ro 2 rfl))) ?_
    rintro v2221 w21 ⟨hN2221, hl2221⟩
    have S22 := S17.add hl2221 hN2221
    refine l_x rfl (x_as rfl) ?_
    refine l_nil ?_
    refine r_ret (rs := [.tmp 8]) [_] Tryz.func73 rfl ⟨rfl, trivial⟩ ?_
    have hN := S22.new 3 rfl
    rw [only_dl, hqq] at hN
    exact ⟨by rw [onlyD, if_pos hR]; exact hN, S22.le⟩

end Go.Proofs
