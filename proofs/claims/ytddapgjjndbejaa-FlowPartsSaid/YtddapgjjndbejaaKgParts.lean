/- Texts joined for a claim: F5, F6, F7, F8, F9, F10, F11, F12, F13, F14. -/
import Derived.Test.YtddapgjjndbejaaKeParts
import Derived.Test.YtddapgjjndbejaaShelf
import Derived.Test.YtddapgjjndbejaaKbParts
/-
  Contracts of functions of the program: each by symbolic execution of its text.
-/
namespace Go.Proofs
open Go Go.Vk Go.Vk.Flow

/-- slices.DeleteFunc[[]int,int]. -/
theorem c_DeleteFunc (v0 : Value) (l : List Int) (p : Int → Bool) (kf : Nat) (caps : List Value) (hmx : l.length ≤ 9223372036854775807) (w : World) (he : ∀ args w, (callFunc kf args).run Try.prog w = .ok (.enter kf args) w)
    (hf : ∀ x ∈ l, ∀ w1, Cl Try.prog kf ([Value.int .i64 x] ++ caps).toArray w1 fun v w2 => v = .bool (p x) ∧ Le w1 w2) (S : Own (vec EI v0 l).fp w w [vec EI v0 l]) :
    Cl Try.prog 124 #[v0, .func (.func kf) #[] caps.toArray] w fun v w' => Own (vec EI v0 l).fp w w' [vec EI v (l.filter fun x => !p x)] := by
  refine fn_of_run (args := [_, _]) 42 Try.func124 rfl rfl rfl fun cs => ?_
  refine r_seq ?_
  refine r_region ?_
  refine l_x rfl (x_as rfl) ?_
  refine l_nil ?_
  refine r_seq ?_
  refine r_region ?_
  refine l_x rfl (x_mv rfl) ?_
  refine l_x rfl (x_mv rfl) ?_
  refine l_call [] [] [_, _] rfl rfl Try.call117 rfl (c_IndexFuncInt _ _ p kf caps hmx _ (vec_rd (S.at 0 rfl)) he (fun x hx w1 _ => hf x hx w1)) ?_
  rintro _ w1 ⟨rfl, hl3⟩
  have S2 := S.step hl3
  refine l_x rfl (x_as rfl) ?_
  refine l_nil ?_
  refine r_seq ?_
  refine r_seq ?_
  refine r_region ?_
  refine l_x rfl (x_mv rfl) ?_
  refine l_x rfl (x_eql rfl rfl) ?_
  refine l_nil ?_
  refine r_ifd rfl (fun hc12 => ?_) (fun hc12 => ?_)
  · skip
    refine r_seq ?_
    refine r_region ?_
    refine l_x rfl (x_mv rfl) ?_
    refine l_x rfl (x_as rfl) ?_
    refine l_nil ?_
    refine r_ret (rs := [.tmp 4]) [_] Try.func124 rfl ⟨rfl, trivial⟩ ?_
    rw [List.filter_eq_self.2 fun x hx => by simp [idx_neg hc12 x hx]]
    exact S2
  · skip
    refine r_skip ?_
    refine r_seq ?_
    refine r_seq ?_
    obtain ⟨i0, a0, hi0, ha0, hp0, hn0⟩ := idx_pos hc12
    have hi0l := (List.getElem?_eq_some_iff.1 ha0).1
    refine r_slot 5 (.int .i64 (i0 : Int)) (congrArg (Value.int .i64) hi0) ?_
    refine r_region ?_
    refine l_x rfl (x_mv rfl) ?_
    refine l_x rfl (x_add rfl rfl (by omega)) ?_
    refine l_x rfl (x_as rfl) ?_
    refine l_nil ?_
    refine r_block ?_
    refine r_loop (G := Nat × Nat × List Int) (fun ⟨i, j, l1⟩ => l.length - j) (fun ⟨i, j, l1⟩ => [(0, v0), (1, .func (.func kf) #[] caps.toArray), (5, .int .i64 i), (6, .int .i64 j)]) (fun ⟨i, j, l1⟩ w' => (DelInv p l l1 i j) ∧ Own (vec EI v0 l).fp w w' [vec EI v0 l1]) (i0, i0 + 1, l) ⟨rfl, rfl, rfl, rfl, trivial⟩ ⟨DelInv.start ha0 hp0 hn0, S2⟩ ?_
    rintro ⟨i, j, l1⟩ ρ w1 ⟨hI, S1⟩ IH
    refine r_seq ?_
    refine r_seq ?_
    refine r_region ?_
    refine l_x rfl (x_mv rfl) ?_
    refine l_x rfl (x_mv rfl) ?_
    refine l_x rfl (x_len (vec_rd (S1.at 0 rfl)) rfl Try.runUnderlying25) ?_
    refine l_x rfl (x_lss rfl rfl) ?_
    refine l_nil ?_
    refine r_ifd rfl (fun hc19 => ?_) (fun hc19 => ?_)
    · skip
      have hlen := hI.len
      have hle := hI.le
      obtain ⟨a, ha⟩ : ∃ a, l[j]? = some a := ⟨_, List.getElem?_eq_getElem (by omega)⟩
      have ha1 := hI.at ha
      refine r_skip ?_
      refine r_seq ?_
      refine r_block ?_
      refine r_seq ?_
      refine r_region ?_
      refine l_x rfl (x_mv rfl) ?_
      refine l_x rfl (x_mv rfl) ?_
      refine l_index EI rfl (vec_rd (S1.at 0 rfl)) rfl rfl Try.runUnderlying25 Try.sizeOf3 (by omega) (by first | assumption | exact List.getElem?_eq_getElem (by omega)) ?_
      intro b4 o5 hat6 row7
      refine l_x rfl (x_load rfl (ld_cell Try.isAgg3 (row7 0 _ rfl))) ?_
      refine l_x rfl (x_as rfl) ?_
      refine l_nil ?_
      refine r_seq ?_
      refine r_region ?_
      refine l_x rfl (x_mv rfl) ?_
      refine l_x rfl (x_mv rfl) ?_
      refine l_call [] caps ([_] ++ caps) rfl rfl he rfl (hf _ (List.mem_of_getElem? ha) _) ?_
      rintro _ w8 ⟨rfl, hl10⟩
      have S9 := S1.step hl10
      refine l_x rfl (x_not rfl) ?_
      refine l_nil ?_
      refine r_if rfl (fun hc29 => ?_) (fun hc29 => ?_)
      · skip
        have hc29 : p a = false := by simpa using hc29
        refine r_seq ?_
        refine r_region ?_
        refine l_x rfl (x_mv rfl) ?_
        refine l_x rfl (x_mv rfl) ?_
        refine l_x rfl (x_mv rfl) ?_
        refine l_index EI rfl (vec_rd (S9.at 0 rfl)) rfl rfl Try.runUnderlying25 Try.sizeOf3 (by omega) (by first | assumption | exact List.getElem?_eq_getElem (by omega)) ?_
        intro b11 o12 hat13 row14
        refine l_storevi (f := 0) S9 0 rfl rfl hat13 rfl rfl Try.sizeOf3 (by first | assumption | exact List.getElem?_eq_getElem (by omega)) (by decide) rfl ?_
        intro w15 S16 hk17
        refine l_nil ?_
        refine r_region ?_
        refine l_x rfl (x_mv rfl) ?_
        refine l_x rfl (x_add rfl rfl (by omega)) ?_
        refine l_x rfl (x_as rfl) ?_
        refine l_nil ?_
        refine r_inBlock ?_
        refine r_region ?_
        refine l_x rfl (x_mv rfl) ?_
        refine l_x rfl (x_add rfl rfl (by omega)) ?_
        refine l_x rfl (x_as rfl) ?_
        refine l_nil ?_
        exact IH (i + 1, j + 1, l1.set i a) _ _ (by dsimp only; omega) ⟨rfl, rfl, rfl, rfl, trivial⟩ ⟨hI.keep ha hc29, S16⟩
      · skip
        have hc29 : p a = true := by simpa using hc29
        refine r_skip ?_
        refine r_inBlock ?_
        refine r_region ?_
        refine l_x rfl (x_mv rfl) ?_
        refine l_x rfl (x_add rfl rfl (by omega)) ?_
        refine l_x rfl (x_as rfl) ?_
        refine l_nil ?_
        exact IH (i, j + 1, l1) _ _ (by dsimp only; omega) ⟨rfl, rfl, rfl, rfl, trivial⟩ ⟨hI.drop ha hc29, S9⟩
    · skip
      have hlen := hI.len
      have hle := hI.le
      have hj : j = l.length := by have := hI.lej; omega
      subst hj
      refine r_exit rfl ?_
      refine r_seq ?_
      refine r_region ?_
      refine l_x rfl (x_mv rfl) ?_
      refine l_x rfl (x_mv rfl) ?_
      refine l_tail S1 0 rfl rfl rfl rfl Try.runUnderlying25 Try.sizeOf3 (by omega) ?_
      intro v18 ht19
      refine l_clear (a0 := 0) S1 0 rfl rfl ht19 rfl Try.runUnderlying25 Try.zeroValue3 rfl rfl rfl ?_
      intro w20 S21 hk22
      refine l_nil ?_
      refine r_seq ?_
      refine r_region ?_
      refine l_x rfl (x_mv rfl) ?_
      refine l_x rfl (x_mv rfl) ?_
      refine l_prefix S21 0 rfl rfl rfl rfl Try.runUnderlying25 Try.sizeOf3 (by rw [List.length_append, List.length_take, List.length_replicate]; omega) ?_
      intro v23 S24
      refine l_x rfl (x_as rfl) ?_
      refine l_nil ?_
      refine r_ret (rs := [.tmp 4]) [_] Try.func124 rfl ⟨rfl, trivial⟩ ?_
      have hS := S24
      rw [Int.toNat_natCast, List.take_append_of_le_length (by rw [List.length_take]; omega), List.take_take, Nat.min_self, hI.done] at hS
      exact hS

/-- couchant/flow.listed$1. -/
theorem c_listed1 (x : Int) (w : World) :
    Cl Try.prog 125 #[.int .i64 x] w fun v w' => v = .bool (decide (x = 0)) ∧ Le w w' := by
  refine fn_of_run (args := [_]) 5 Try.func125 rfl rfl rfl fun cs => ?_
  have S := Own.start (X := nob) w
  refine r_seq ?_
  refine r_region ?_
  refine l_x rfl (x_as rfl) ?_
  refine l_nil ?_
  refine r_seq ?_
  refine r_region ?_
  refine l_x rfl (x_mv rfl) ?_
  refine l_x rfl (x_eql rfl rfl) ?_
  refine l_x rfl (x_as rfl) ?_
  refine l_nil ?_
  refine r_ret (rs := [.tmp 2]) [_] Try.func125 rfl ⟨rfl, trivial⟩ ?_
  exact ⟨rfl, S.le⟩

/-- slices.Sort at a slice that is lent. -/
theorem c_Sort (v : Value) (l : List Int) (w : World) (S : Own (vec EI v l).fp w w [vec EI v l]) (hl : l.length < 4611686018427387904) :
    Cl Try.prog 126 #[v] w fun _ w' => Own (vec EI v l).fp w w' [vec EI v (l.mergeSort fun x y => decide (x ≤ y))] := sort_cl Try.slices_Sort_int Try.slices_Sort_int_none S hl
/-- slices.Compact at a slice that is lent. -/
theorem c_Compact (v : Value) (l : List Int) (w : World) (S : Own (vec EI v l).fp w w [vec EI v l]) :
    Cl Try.prog 127 #[v] w fun v' w' => Own (vec EI v l).fp w w' [vec EI v' (Lib.compact l)] := compact_cl Try.slices_Compact_int Try.slices_Compact_int_empty S

/-- couchant/flow.listed. -/
theorem c_listed (v0 : Value) (l : List Int) (hmx : l.length ≤ 1000000) (w : World) (S : Own (vec EI v0 l).fp w w [vec EI v0 l]) :
    Cl Try.prog 80 #[v0] w fun v w' => Own (vec EI v0 l).fp w w' [vec EI v (lst l)] := by
  refine fn_of_run (args := [_]) 9 Try.func80 rfl rfl rfl fun cs => ?_
  refine r_seq ?_
  refine r_region ?_
  refine l_x rfl (x_as rfl) ?_
  refine l_nil ?_
  refine r_seq ?_
  refine r_region ?_
  refine l_x rfl (x_mv rfl) ?_
  refine l_call [] [] [_, _] rfl rfl Try.call124 rfl (c_DeleteFunc _ l (fun x => decide (x = 0)) 125 [] (by omega) _ Try.call125 (fun x _ w1 => c_listed1 x w1) (S.lend 0 rfl)) ?_
  intro v1 w2 hl4
  have S3 := S.back 0 rfl hl4
  refine l_x rfl (x_as rfl) ?_
  refine l_nil ?_
  refine r_seq ?_
  refine r_region ?_
  refine l_x rfl (x_mv rfl) ?_
  refine l_call [] [] [_] rfl rfl Try.call126 rfl (c_Sort _ _ _ (S3.lend 0 rfl) (by have := List.length_filter_le (fun x => !decide (x = 0)) l; omega)) ?_
  intro _ w5 hl7
  have S6 := S3.back 0 rfl hl7
  refine l_nil ?_
  refine r_seq ?_
  refine r_region ?_
  refine l_x rfl (x_mv rfl) ?_
  refine l_call [] [] [_] rfl rfl Try.call127 rfl (c_Compact _ _ _ (S6.lend 0 rfl)) ?_
  intro v8 w9 hl11
  have S10 := S6.back 0 rfl hl11
  refine l_x rfl (x_as rfl) ?_
  refine l_nil ?_
  refine r_ret (rs := [.tmp 2]) [_] Try.func80 rfl ⟨rfl, trivial⟩ ?_
  exact S10

/-- The list of records that a variable holds. -/
abbrev RR (bo : Nat) (l : List Int) (v : Value) : Rsc := pack [blk bo [v] 25, vec EI v l]
theorem rec_end {X : Nat → Prop} {w w' : World} {bo : Nat} {v' : Value} {l' l : List Int} (h : Own X w w' [blk bo [v'] 25, vec EI v' l']) (e : l' = l) : ∃ v', Own X w w' [RR bo l v'] := ⟨v', by subst e; exact h.close⟩

/-- couchant/flow.Records$2. -/
theorem c_Records2 (a : Arc) (h : Bool) (t : List (Arc × Bool)) (bo : Nat) (v0 : Value) (hlen : t.length < 4000) (w : World) (S0 : Own (RR bo (recs t) v0).fp w w [RR bo (recs t) v0]) :
    Cl Try.prog 99 #[.agg a.enc.toArray, .bool h, .pointer (some ⟨bo, 0, none⟩)] w fun v w' => ∃ v', Own (RR bo (recs t) v0).fp w w' [RR bo (recs (t ++ [(a, h)])) v'] := by
  refine fn_of_run (args := [_, _, _]) 21 Try.func99 rfl rfl rfl fun cs => ?_
  have S := S0.open
  refine r_seq ?_
  refine r_region ?_
  refine l_box S rfl rfl ?_
  intro b4 w1 S2 hl3
  refine l_nil ?_
  refine r_block ?_
  refine r_seq ?_
  refine r_region ?_
  refine l_x rfl (x_mv rfl) ?_
  refine l_x rfl (x_as rfl) ?_
  refine l_nil ?_
  refine r_if rfl (fun hc5 => ?_) (fun hc5 => ?_)
  · skip
    refine r_region ?_
    refine l_x rfl (x_load rfl (ld_blk (S2.blk 0 rfl) Try.isAgg25 rfl)) ?_
    refine l_x rfl (x_fieldAddr rfl Try.runUnderlying39 rfl Try.sizeOf3 (by decide)) ?_
    refine l_x rfl (x_load rfl (ld_blk (S2.blk 2 rfl) Try.isAgg3 rfl)) ?_
    refine l_buildSlice EI [_] S2 rfl Try.runUnderlying25 Try.sizeOf3 Try.zeroValue3 rfl ⟨rfl, rfl, trivial⟩ (Nat.le_of_ble_eq_true rfl) ?_
    intro v8 w5 S6 hl7
    refine l_append EI S6 1 rfl rfl rfl rfl (vec_rd (S6.at 3 rfl)) Try.underlying25 info3 rfl rfl rfl (by have := recs_len t; unfold maxLen; simp; omega) (by have := recs_len t; show _ * 8 ≤ _; simp; omega) ?_
    intro v12 w9 S10 hk11 hv13
    refine l_storeq (c' := [_]) (v := v12) S10 0 rfl rfl rfl rfl (Rd.one (vec_rd (S10.at 1 rfl))) Try.sizeOf25 (by simp) rfl ?_
    intro w14 S15 hk16
    refine l_nil ?_
    refine r_inBlock ?_
    refine r_end (rs := []) [] Try.func99 rfl trivial ?_
    exact rec_end (S15.take 2) (by rw [hc5, recs_snoc]; rfl)
  · skip
    refine r_seq ?_
    refine r_region ?_
    refine l_x rfl (x_fieldAddr rfl Try.runUnderlying39 rfl Try.sizeOf3 (by decide)) ?_
    refine l_x rfl (x_load rfl (ld_blk (S2.blk 2 rfl) Try.isAgg3 rfl)) ?_
    refine l_x rfl (x_gtr rfl rfl) ?_
    refine l_x rfl (x_as rfl) ?_
    refine l_nil ?_
    refine r_ifd rfl (fun hc12 => ?_) (fun hc12 => ?_)
    · skip
      refine r_region ?_
      refine l_x rfl (x_load rfl (ld_blk (S2.blk 0 rfl) Try.isAgg25 rfl)) ?_
      refine l_x rfl (x_fieldAddr rfl Try.runUnderlying39 rfl Try.sizeOf3 (by decide)) ?_
      refine l_x rfl (x_load rfl (ld_blk (S2.blk 2 rfl) Try.isAgg3 rfl)) ?_
      refine l_buildSlice EI [_] S2 rfl Try.runUnderlying25 Try.sizeOf3 Try.zeroValue3 rfl ⟨rfl, rfl, trivial⟩ (Nat.le_of_ble_eq_true rfl) ?_
      intro v20 w17 S18 hl19
      refine l_append EI S18 1 rfl rfl rfl rfl (vec_rd (S18.at 3 rfl)) Try.underlying25 info3 rfl rfl rfl (by have := recs_len t; unfold maxLen; simp; omega) (by have := recs_len t; show _ * 8 ≤ _; simp; omega) ?_
      intro v24 w21 S22 hk23 hv25
      refine l_storeq (c' := [_]) (v := v24) S22 0 rfl rfl rfl rfl (Rd.one (vec_rd (S22.at 1 rfl))) Try.sizeOf25 (by simp) rfl ?_
      intro w26 S27 hk28
      refine l_nil ?_
      refine r_inBlock ?_
      refine r_end (rs := []) [] Try.func99 rfl trivial ?_
      exact rec_end (S27.take 2) (by rw [hc5, recs_snoc, rec1, if_pos hc12])
    · skip
      refine r_skip ?_
      refine r_inBlock ?_
      refine r_end (rs := []) [] Try.func99 rfl trivial ?_
      exact rec_end (S2.take 2) (by rw [hc5, recs_snoc, rec1, if_neg hc12, List.append_nil])

/-- couchant/flow.Records$1. -/
theorem c_Records1 (N : Int) (va : Value) (arcs : List Arc) (vw : Value) (wl : List Int) (vp : Value) (p : List Int) (b0 b1 b2 : Nat) (hmwl : wl.length ≤ 9223372036854775807) (hmp : p.length ≤ 9223372036854775807) (w : World) (h0 : Blk w b0 [.int .i64 N, va] 24) (h1 : Blk w b1 [vw] 25) (h2 : Blk w b2 [vp] 25)  (hA : Rd EA w va arcs) (Hwl : Rd EI w vw wl) (Hp : Rd EI w vp p) :
    Cl Try.prog 98 #[.pointer (some ⟨b0, 0, none⟩), .pointer (some ⟨b1, 0, none⟩), .pointer (some ⟨b2, 0, none⟩)] w fun v w' => v = .bool (row wl arcs.length (-1000) 1000 && row p N (-10000000) 10000000) ∧ Le w w' := by
  refine fn_of_run (args := [_, _, _]) 12 Try.func98 rfl rfl rfl fun cs => ?_
  have S := Own.start (X := nob) w
  refine r_seq ?_
  refine r_region ?_
  refine l_x rfl (x_as rfl) ?_
  refine l_nil ?_
  refine r_seq ?_
  refine r_region ?_
  refine l_x rfl (x_load rfl (ld_blks (h0.keep S.le id) Try.isAgg24 Try.sizeOf24 rfl rfl)) ?_
  refine l_x rfl (x_load rfl (ld_blk (h1.keep S.le id) Try.isAgg25 rfl)) ?_
  refine l_call [] [] [_, _] rfl rfl Try.call70 rfl (c_weights N _ arcs _ _ (by omega) _ (hA.le S.le) (Hwl.le S.le)) ?_
  rintro _ w1 ⟨rfl, hl3⟩
  have S2 := S.step hl3
  refine l_x rfl (x_mv rfl) ?_
  refine l_split (d := 7) rfl (fun hg7 => ?_) (fun hg7 => ?_)
  · skip
    refine l_x rfl (x_load rfl (ld_blks (h0.keep S2.le id) Try.isAgg24 Try.sizeOf24 rfl rfl)) ?_
    refine l_x rfl (x_load rfl (ld_blk (h2.keep S2.le id) Try.isAgg25 rfl)) ?_
    refine l_call [] [] [_, _] rfl rfl Try.call89 rfl (c_potentials N _ _ _ (by omega) _ (Hp.le S2.le)) ?_
    rintro _ w4 ⟨rfl, hl6⟩
    have S5 := S2.step hl6
    refine l_x rfl (x_pick_t rfl rfl) ?_
    refine l_x rfl (x_as rfl) ?_
    refine l_nil ?_
    refine r_ret (rs := [.tmp 3]) [_] Try.func98 rfl ⟨rfl, trivial⟩ ?_
    exact ⟨congrArg Value.bool (by simp [*]), S5.le⟩
  · skip
    refine l_pass rfl ?_
    refine l_pass rfl ?_
    refine l_pass rfl ?_
    refine l_x rfl (x_pick_f rfl rfl) ?_
    refine l_x rfl (x_as rfl) ?_
    refine l_nil ?_
    refine r_ret (rs := [.tmp 3]) [_] Try.func98 rfl ⟨rfl, trivial⟩ ?_
    exact ⟨congrArg Value.bool (by simp [*]), S2.le⟩

/-- couchant/flow.Records. -/
theorem c_Records (N : Int) (va : Value) (arcs : List Arc) (vw : Value) (wl : List Int) (vp : Value) (p : List Int) (hmwl : wl.length ≤ 9223372036854775807) (hmp : p.length ≤ 9223372036854775807) (w : World) (hA : Rd EA w va arcs) (Hwl : Rd EI w vw wl) (Hp : Rd EI w vp p) :
    Cl Try.prog 40 #[.agg #[.int .i64 N, va], vw, vp] w fun v w' => ∃ s, v = .tuple #[s, .int .i64 (askd N arcs (row wl arcs.length (-1000) 1000 && row p N (-10000000) 10000000))] ∧ New w w' (vec EI s (if askd N arcs (row wl arcs.length (-1000) 1000 && row p N (-10000000) 10000000) = 0 then lst (recs (told p arcs wl)) else [])) ∧ Le w w' := by
  refine fn_of_run (args := [_, _, _]) 23 Try.func40 rfl rfl rfl fun cs => ?_
  have S := Own.start (X := nob) w
  refine r_seq ?_
  refine r_region ?_
  refine l_box S rfl rfl ?_
  intro b4 w1 S2 hl3
  refine l_box S2 rfl (Rd.cells (Hwl.le S2.le)) ?_
  intro b8 w5 S6 hl7
  refine l_box S6 rfl (Rd.cells (Hp.le S6.le)) ?_
  intro b12 w9 S10 hl11
  refine l_x rfl (x_as rfl) ?_
  refine l_x rfl (x_as rfl) ?_
  refine l_nil ?_
  refine r_seq ?_
  refine r_seq ?_
  refine r_region ?_
  refine l_x rfl (x_load rfl (ld_blks (S10.blk 0 rfl) Try.isAgg24 Try.sizeOf24 rfl rfl)) ?_
  refine l_x rfl (x_func rfl rfl) ?_
  refine l_call [] [] [_, _] rfl rfl Try.call62 rfl (c_asked N va arcs (row wl arcs.length (-1000) 1000 && row p N (-10000000) 10000000) 98 [_, _, _] _ (hA.le S10.le) Try.call98 (fun _ w1 h1 => c_Records1 N va arcs vw wl vp p _ _ _ (by omega) (by omega) w1 ((S10.blk 0 rfl).keep h1 id) ((S10.blk 1 rfl).keep h1 id) ((S10.blk 2 rfl).keep h1 id) (hA.le (S10.le.trans h1)) (Hwl.le (S10.le.trans h1)) (Hp.le (S10.le.trans h1)))) ?_
  rintro _ w13 ⟨rfl, hl15⟩
  have S14 := S10.step hl15
  refine l_x rfl (x_as rfl) ?_
  refine l_nil ?_
  refine r_seq ?_
  refine r_region ?_
  refine l_x rfl (x_mv rfl) ?_
  refine l_x rfl (x_neq rfl rfl) ?_
  refine l_nil ?_
  refine r_ifd rfl (fun hc14 => ?_) (fun hc14 => ?_)
  · skip
    refine r_seq ?_
    refine r_region ?_
    refine l_x rfl (x_mv rfl) ?_
    refine l_x rfl (x_as rfl) ?_
    refine l_x rfl (x_as rfl) ?_
    refine l_nil ?_
    refine r_ret (rs := [.tmp 6, .tmp 7]) [_, _] Try.func40 rfl ⟨rfl, rfl, trivial⟩ ?_
    exact ⟨_, rfl, by rw [if_neg hc14]; exact New.nilvec .., S14.le⟩
  · skip
    have h0 := Decidable.not_not.1 hc14
    obtain ⟨hV, hq⟩ := askd_zero.1 h0
    rw [Bool.and_eq_true] at hq
    have hw := row_wts.1 hq.1
    have hp := row_pts.1 hq.2
    refine r_skip ?_
    refine r_seq ?_
    refine r_region ?_
    refine l_alloc S14 rfl Try.zeroValue25 rfl ?_
    intro b19 w16 S17 hl18
    refine l_nil ?_
    refine r_seq ?_
    refine r_region ?_
    refine l_x rfl (x_load rfl (ld_blks (S17.blk 0 rfl) Try.isAgg24 Try.sizeOf24 rfl rfl)) ?_
    refine l_x rfl (x_load rfl (ld_blk (S17.blk 1 rfl) Try.isAgg25 rfl)) ?_
    refine l_x rfl (x_load rfl (ld_blk (S17.blk 2 rfl) Try.isAgg25 rfl)) ?_
    refine l_x rfl (x_func rfl rfl) ?_
    have Sa := Own.nilvec (E := EI) S17
    have Sb := Own.pack (A := [_, _, _]) (L := [_, _]) Sa
    refine l_call [] [] [_, _, _, _] rfl rfl Try.call90 rfl (c_bound N va arcs vw wl vp p 99 [_] (fun t r => ∃ v, r = RR _ (recs t) v) w hV hw hp Try.call99 (fun t r a h w1 ⟨v, hr⟩ _ hl hS => by subst hr; exact (c_Records2 a h t _ v hl w1 hS).mono fun _ _ ⟨v', h'⟩ => ⟨_, ⟨v', rfl⟩, h'⟩) hA Hwl Hp _ ⟨_, rfl⟩ _ (Sb.lend 3 rfl) S17.le (fun b hb => (Sb.bd 3 _ rfl b hb).2.resolve_right id)) ?_
    rintro _ w20 ⟨rfl, _, ⟨v23, rfl⟩, hback21⟩
    have S22 := Own.unpack (A := [_, _, _]) (L := [_, _]) (Sb.back 3 rfl hback21)
    have hrl := recs_len (told p arcs wl)
    have htl := told_len (p := p) arcs wl
    have hLx := hV.len
    refine l_nil ?_
    refine r_seq ?_
    refine r_region ?_
    refine l_x rfl (x_load rfl (ld_blk (S22.blk 3 rfl) Try.isAgg25 rfl)) ?_
    refine l_call [] [] [_] rfl rfl Try.call80 rfl (c_listed _ _ (by omega) _ (S22.lend 4 rfl)) ?_
    intro v24 w25 hl27
    have S26 := S22.back 4 rfl hl27
    refine l_x rfl (x_as rfl) ?_
    refine l_x rfl (x_as rfl) ?_
    refine l_nil ?_
    refine r_ret (rs := [.tmp 6, .tmp 7]) [_, _] Try.func40 rfl ⟨rfl, rfl, trivial⟩ ?_
    exact ⟨_, congrArg (fun x => Value.tuple #[_, .int .i64 x]) h0.symm, by rw [if_pos h0]; exact S26.new 4 rfl, S26.le⟩

end Go.Proofs

/-
  Contracts of functions of the program: each by symbolic execution of its text.
-/
namespace Go.Proofs
open Go Go.Vk Go.Vk.Flow

/-- couchant/flow.cut. -/
theorem c_cut (N : Int) (va : Value) (arcs : List Arc) (vn : Value) (ns : List Int) (hV : Valid N arcs) (hb : ∀ v ∈ ns, 0 ≤ v ∧ v < N) (hmx : ns.length ≤ 9223372036854775807) (w : World) (Hn : Rd EI w vn ns) :
    Cl Try.prog 81 #[.agg #[.int .i64 N, va], vn] w fun v w' => ∃ b1 b2 vs, v = .func (.func 128) #[] #[.pointer (some ⟨b1, 0, none⟩), .pointer (some ⟨b2, 0, none⟩)] ∧ Own nob w w' [blk b1 [.int .i64 N, va] 24, vec EB vs (mk N ns), blk b2 [vs] 101] := by
  have hNx := hV.max
  have hN1 := hV.pos
  refine fn_of_run (args := [_, _]) 22 Try.func81 rfl rfl rfl fun cs => ?_
  have S := Own.start (X := nob) w
  refine r_seq ?_
  refine r_region ?_
  refine l_box S rfl rfl ?_
  intro b4 w1 S2 hl3
  refine l_x rfl (x_as rfl) ?_
  refine l_nil ?_
  refine r_seq ?_
  refine r_region ?_
  refine l_x rfl (x_fieldAddr rfl Try.runUnderlying24 rfl Try.sizeOf3 (by decide)) ?_
  refine l_x rfl (x_load rfl (ld_blk (S2.blk 0 rfl) Try.isAgg3 rfl)) ?_
  refine l_make EB false S2 rfl Try.runUnderlying101 Try.sizeOf4 Try.typeInfo4 Try.zeroValue4 rfl rfl (congrArg (Value.int .i64) (Int.toNat_of_nonneg (by omega)).symm) (congrArg (Value.int .i64) (Int.toNat_of_nonneg (by omega)).symm) (Nat.le_refl _) (by unfold maxLen; omega) (by show _ * 1 ≤ _; omega) ?_
  intro v8 w5 hv9 S6 hl7
  refine l_alloc S6 rfl Try.zeroValue101 rfl ?_
  intro b13 w10 S11 hl12
  refine l_storeq (c' := [_]) (v := v8) S11 2 rfl rfl rfl rfl (Rd.one (vec_rd (S11.at 1 rfl))) Try.sizeOf101 (by simp) rfl ?_
  intro w14 S15 hk16
  refine l_nil ?_
  refine r_seq ?_
  refine r_seq ?_
  refine r_region ?_
  refine l_x rfl (x_mv rfl) ?_
  refine l_x rfl (x_len (Hn.le S15.le) rfl Try.runUnderlying25) ?_
  refine l_x rfl (x_mv rfl) ?_
  refine l_nil ?_
  refine r_block ?_
  refine r_loop (G := Nat) (fun i => ns.length - i) (fun i => [(2, .pointer (some ⟨b4, 0, none⟩)), (5, .pointer (some ⟨b13, 0, none⟩)), (11, vn), (13, .int .i64 i), (12, .int .i64 ns.length)]) (fun i w' => (i ≤ ns.length) ∧ Own nob w w' [blk b4 [.int .i64 N, va] 24, vec EB v8 (mk N (ns.take i)), blk b13 [v8] 101]) 0 ⟨rfl, rfl, rfl, rfl, rfl, trivial⟩ ⟨Nat.zero_le _, (by rw [List.take_zero, mk_nil]; exact S15)⟩ ?_
  rintro i ρ w1 ⟨hi, S1⟩ IH
  refine r_seq ?_
  refine r_region ?_
  refine l_x rfl (x_lss rfl rfl) ?_
  refine l_nil ?_
  refine r_seq ?_
  refine r_ifd rfl (fun hc14 => ?_) (fun hc14 => ?_)
  · skip
    obtain ⟨a, ha⟩ : ∃ a, ns[i]? = some a := ⟨_, List.getElem?_eq_getElem (by omega)⟩
    have hab := hb a (List.mem_of_getElem? ha)
    refine r_skip ?_
    refine r_seq ?_
    refine r_block ?_
    refine r_seq ?_
    refine r_region ?_
    refine l_index EI rfl (Hn.le S1.le) rfl rfl Try.runUnderlying25 Try.sizeOf3 (by omega) (by first | assumption | exact List.getElem?_eq_getElem (by omega)) ?_
    intro b17 o18 hat19 row20
    refine l_x rfl (x_load rfl (ld_cell Try.isAgg3 (row20 0 _ rfl))) ?_
    refine l_x rfl (x_as rfl) ?_
    refine l_nil ?_
    refine r_region ?_
    refine l_x rfl (x_load rfl (ld_blk (S1.blk 2 rfl) Try.isAgg101 rfl)) ?_
    refine l_x rfl (x_mv rfl) ?_
    refine l_index EB rfl (vec_rd (S1.at 1 rfl)) rfl rfl Try.runUnderlying101 Try.sizeOf4 (by omega) (mk_get (by omega)) ?_
    intro b21 o22 hat23 row24
    refine l_storevb (f := 0) S1 1 rfl rfl hat23 rfl rfl Try.sizeOf4 (mk_get (by omega)) (by decide) rfl ?_
    intro w25 S26 hk27
    refine l_nil ?_
    refine r_inBlock ?_
    refine r_region ?_
    refine l_x rfl (x_add rfl rfl (by omega)) ?_
    refine l_x rfl (x_mv rfl) ?_
    refine l_nil ?_
    exact IH (i + 1) _ _ (by omega) ⟨rfl, rfl, rfl, rfl, rfl, trivial⟩ ⟨by omega, (by rw [take_snoc ns i (by omega), (List.getElem?_eq_some_iff.1 ha).2, ← mk_set (by omega)]; exact S26)⟩
  · skip
    have hi : i = ns.length := by omega
    subst hi
    refine r_exit rfl ?_
    refine r_seq ?_
    refine r_region ?_
    refine l_x rfl (x_func rfl rfl) ?_
    refine l_x rfl (x_as rfl) ?_
    refine l_nil ?_
    refine r_ret (rs := [.tmp 4]) [_] Try.func81 rfl ⟨rfl, trivial⟩ ?_
    exact ⟨_, _, _, rfl, by have hS := S1; rw [List.take_length] at hS; exact hS⟩

/-- couchant/flow.cut$1. -/
theorem c_cut1 (N : Int) (va : Value) (arcs : List Arc) (ns : List Int) (hV : Valid N arcs) (b1 b2 yl : Nat) (vs : Value) (X : Nat → Prop) (u : World) (hX : ∀ b, X b → u.heap.size ≤ b) (hA : Rd EA u va arcs) (R : List (Arc × Bool) → Rsc → Prop)
    (hy : ∀ t r a o w1, R t r → (∃ s, cutl ns arcs = t ++ (a, o) :: s) → Own r.fp w1 w1 [r] → Yl Try.prog yl [Value.agg a.enc.toArray, Value.bool o].toArray w1 fun v w2 => ∃ r', v = .bool true ∧ R (t ++ [(a, o)]) r' ∧ Own r.fp w1 w2 [r']) (r : Rsc) (hr : R [] r) (w : World) (S : Own X u w [blk b1 [.int .i64 N, va] 24, vec EB vs (mk N ns), blk b2 [vs] 101, r]) :
    Cl Try.prog 128 #[.func (.yield yl) #[] #[], .pointer (some ⟨b1, 0, none⟩), .pointer (some ⟨b2, 0, none⟩)] w fun _ w' => ∃ r', R (cutl ns arcs) r' ∧ Own X u w' [blk b1 [.int .i64 N, va] 24, vec EB vs (mk N ns), blk b2 [vs] 101, r'] := by
  have hNx := hV.max
  have hLx := hV.len
  refine fn_of_run (args := [_, _, _]) 36 Try.func128 rfl rfl rfl fun cs => ?_
  refine r_seq ?_
  refine r_region ?_
  refine l_x rfl (x_fieldAddr rfl Try.runUnderlying24 rfl Try.sizeOf22 (by decide)) ?_
  refine l_x rfl (x_load rfl (ld_blk (S.blk 0 rfl) Try.isAgg22 rfl)) ?_
  refine l_x rfl (x_len (hA.le (S.here hX)) rfl Try.runUnderlying22) ?_
  refine l_x rfl (x_mv rfl) ?_
  refine l_nil ?_
  refine r_block ?_
  refine r_loop (G := Nat × Rsc) (fun ⟨i, r1⟩ => arcs.length - i) (fun ⟨i, r1⟩ => [(0, .func (.yield yl) #[] #[]), (1, .pointer (some ⟨b1, 0, none⟩)), (2, .pointer (some ⟨b2, 0, none⟩)), (7, va), (9, .int .i64 i), (8, .int .i64 arcs.length)]) (fun ⟨i, r1⟩ w' => (i ≤ arcs.length) ∧ (R (cutl ns (arcs.take i)) r1) ∧ Own X u w' [blk b1 [.int .i64 N, va] 24, vec EB vs (mk N ns), blk b2 [vs] 101, r1]) (0, r) ⟨rfl, rfl, rfl, rfl, rfl, rfl, trivial⟩ ⟨Nat.zero_le _, by simpa [cutl] using hr, (S.take 4)⟩ ?_
  rintro ⟨i, r1⟩ ρ w1 ⟨hi, hR, S1⟩ IH
  refine r_seq ?_
  refine r_region ?_
  refine l_x rfl (x_lss rfl rfl) ?_
  refine l_nil ?_
  refine r_seq ?_
  refine r_ifd rfl (fun hc10 => ?_) (fun hc10 => ?_)
  · skip
    obtain ⟨a, ha⟩ : ∃ a, arcs[i]? = some a := ⟨_, List.getElem?_eq_getElem (by omega)⟩
    have hok := hV.at ha
    refine r_skip ?_
    refine r_seq ?_
    refine r_block ?_
    refine r_seq ?_
    refine r_region ?_
    refine l_index EA rfl (hA.le (S1.here hX)) rfl rfl Try.runUnderlying22 Try.sizeOf39 (by omega) (by first | assumption | exact List.getElem?_eq_getElem (by omega)) ?_
    intro b1 o2 hat3 row4
    refine l_x rfl (x_load rfl (ld_row Try.isAgg39 Try.sizeOf39 rfl row4)) ?_
    refine l_alloc S1 rfl Try.zeroValue39 rfl ?_
    intro b8 w5 S6 hl7
    refine l_stores S6 4 rfl rfl rfl rfl (EA.one _) Try.sizeOf39 (by first | exact Nat.le_refl _ | simp) (splice_all rfl) ?_
    intro w9 S10 hk11
    refine l_nil ?_
    refine r_seq ?_
    refine r_drawR 19 Try.mixed (by kernel_rfl) ?_
    refine w_x rfl (fun w1 h1 => x_load rfl (ld_blk ((S10.step h1).blk 2 rfl) Try.isAgg101 rfl)) ?_
    refine w_x rfl (fun w1 h1 => x_fieldAddr rfl Try.runUnderlying39 rfl Try.sizeOf3 (by decide)) ?_
    refine w_x rfl (fun w1 h1 => x_load rfl (ld_blk ((S10.step h1).blk 4 rfl) Try.isAgg3 rfl)) ?_
    refine w_index EB rfl (vec_rd (S10.at 1 rfl)) rfl rfl Try.runUnderlying101 Try.sizeOf4 (by omega) (mk_get (by omega)) ?_
    intro b12 o13 hat14 row15
    refine w_x rfl (fun w1 h1 => x_load rfl (ld_cell Try.isAgg4 ((row15.le h1) 0 _ rfl))) ?_
    refine w_x rfl (fun w1 h1 => x_load rfl (ld_blk ((S10.step h1).blk 2 rfl) Try.isAgg101 rfl)) ?_
    refine w_x rfl (fun w1 h1 => x_fieldAddr rfl Try.runUnderlying39 rfl Try.sizeOf3 (by decide)) ?_
    refine w_x rfl (fun w1 h1 => x_load rfl (ld_blk ((S10.step h1).blk 4 rfl) Try.isAgg3 rfl)) ?_
    refine w_index EB rfl (vec_rd (S10.at 1 rfl)) rfl rfl Try.runUnderlying101 Try.sizeOf4 (by omega) (mk_get (by omega)) ?_
    intro b16 o17 hat18 row19
    refine w_x rfl (fun w1 h1 => x_load rfl (ld_cell Try.isAgg4 ((row19.le h1) 0 _ rfl))) ?_
    refine w_x rfl (fun w1 h1 => x_bne Try.runUnderlying4 rfl rfl) ?_
    refine w_x rfl (fun w1 h1 => x_mv rfl) ?_
    refine w_split (d := 24) rfl (fun hg24 => ?_) (fun hg24 => ?_)
    · skip
      refine w_x rfl (fun w1 h1 => x_mv rfl) ?_
      refine w_x rfl (fun w1 h1 => x_load rfl (ld_blks ((S10.step h1).blk 4 rfl) Try.isAgg39 Try.sizeOf39 rfl rfl)) ?_
      refine w_x rfl (fun w1 h1 => x_load rfl (ld_blk ((S10.step h1).blk 2 rfl) Try.isAgg101 rfl)) ?_
      refine w_x rfl (fun w1 h1 => x_fieldAddr rfl Try.runUnderlying39 rfl Try.sizeOf3 (by decide)) ?_
      refine w_x rfl (fun w1 h1 => x_load rfl (ld_blk ((S10.step h1).blk 4 rfl) Try.isAgg3 rfl)) ?_
      refine w_index EB rfl (vec_rd (S10.at 1 rfl)) rfl rfl Try.runUnderlying101 Try.sizeOf4 (by omega) (mk_get (by omega)) ?_
      intro b20 o21 hat22 row23
      refine w_x rfl (fun w1 h1 => x_load rfl (ld_cell Try.isAgg4 ((row23.le h1) 0 _ rfl))) ?_
      refine w_nil ?_
      intro w24 hl25
      have S26 := S10.step hl25
      refine l_yield [_, _] rfl rfl rfl (hy (cutl ns (arcs.take i)) r1 a (decide (a.src ∈ ns)) _ hR ⟨_, by rw [cutl_split (i := i + 1), cutl_take ha, cut1, if_pos (by simpa using hg24), List.append_assoc]; rfl⟩ (S26.lend 3 rfl)) ?_
      rintro _ w27 ⟨r30, rfl, hRr30, hback28⟩
      have S29 := S26.back 3 rfl hback28
      refine l_x rfl (x_not rfl) ?_
      refine l_x rfl (x_pick_t rfl rfl) ?_
      refine l_nil ?_
      refine r_false rfl ?_
      refine r_skip ?_
      refine r_inBlock ?_
      refine r_region ?_
      refine l_x rfl (x_add rfl rfl (by omega)) ?_
      refine l_x rfl (x_mv rfl) ?_
      refine l_nil ?_
      exact IH (i + 1, r30) _ _ (by dsimp only; omega) ⟨rfl, rfl, rfl, rfl, rfl, rfl, trivial⟩ ⟨by omega, by rw [cutl_take ha, cut1, if_pos (by simpa using hg24)]; exact hRr30, (S29.take 4)⟩
    · skip
      refine w_pass rfl ?_
      refine w_pass rfl ?_
      refine w_pass rfl ?_
      refine w_pass rfl ?_
      refine w_pass rfl ?_
      refine w_pass rfl ?_
      refine w_pass rfl ?_
      refine w_nil ?_
      intro w32 hl33
      have S34 := S10.step hl33
      refine l_pass rfl ?_
      refine l_pass rfl ?_
      refine l_x rfl (x_pick_f rfl rfl) ?_
      refine l_nil ?_
      refine r_false rfl ?_
      refine r_skip ?_
      refine r_inBlock ?_
      refine r_region ?_
      refine l_x rfl (x_add rfl rfl (by omega)) ?_
      refine l_x rfl (x_mv rfl) ?_
      refine l_nil ?_
      exact IH (i + 1, r1) _ _ (by dsimp only; omega) ⟨rfl, rfl, rfl, rfl, rfl, rfl, trivial⟩ ⟨by omega, by rw [cutl_take ha, cut1, if_neg (by simpa using hg24), List.append_nil]; exact hR, (S34.take 4)⟩
  · skip
    have hi : i = arcs.length := by omega
    subst hi
    rw [List.take_length] at hR
    refine r_exit rfl ?_
    refine r_end (rs := []) [] Try.func128 rfl trivial ?_
    exact ⟨_, hR, S1⟩

/-- couchant/flow.hinders. -/
theorem c_hinders (N : Int) (va : Value) (arcs : List Arc) (A : Int) (vn : Value) (ns : List Int) (hV : Valid N arcs) (hmx : ns.length ≤ 9223372036854775807) (w : World) (hA : Rd EA w va arcs) (Hn : Rd EI w vn ns) :
    Cl Try.prog 77 #[.agg #[.int .i64 N, va], .agg #[.int .i64 A, vn]] w fun v w' => v = .bool (hind N arcs A ns) ∧ Le w w' := by
  have hNx := hV.max
  have hN1 := hV.pos
  have hLx := hV.len
  refine fn_of_run (args := [_, _]) 78 Try.func77 rfl rfl rfl fun cs => ?_
  have S := Own.start (X := nob) w
  refine r_seq ?_
  refine r_region ?_
  refine l_box S rfl rfl ?_
  intro b4 w1 S2 hl3
  refine l_box S2 rfl rfl ?_
  intro b8 w5 S6 hl7
  refine l_x rfl (x_as rfl) ?_
  refine l_nil ?_
  refine r_seq ?_
  refine r_seq ?_
  refine r_region ?_
  refine l_x rfl (x_fieldAddr rfl Try.runUnderlying43 rfl Try.sizeOf3 (by decide)) ?_
  refine l_x rfl (x_load rfl (ld_blk (S6.blk 1 rfl) Try.isAgg3 rfl)) ?_
  refine l_x rfl (x_neq rfl rfl) ?_
  refine l_nil ?_
  refine r_ifd rfl (fun hc13 => ?_) (fun hc13 => ?_)
  · skip
    refine r_seq ?_
    refine r_drawR 31 Try.mixed (by kernel_rfl) ?_
    refine w_x rfl (fun w1 h1 => x_fieldAddr rfl Try.runUnderlying43 rfl Try.sizeOf25 (by decide)) ?_
    refine w_x rfl (fun w1 h1 => x_load rfl (ld_blk ((S6.step h1).blk 1 rfl) Try.isAgg25 rfl)) ?_
    refine w_x rfl (fun w1 h1 => x_len (Hn.le (S6.step h1).le) rfl Try.runUnderlying25) ?_
    refine w_x rfl (fun w1 h1 => x_eql rfl rfl) ?_
    refine w_x rfl (fun w1 h1 => x_mv rfl) ?_
    refine w_splitd (d := 18) rfl (fun hg18 => ?_) (fun hg18 => ?_)
    · skip
      refine w_x rfl (fun w1 h1 => x_fieldAddr rfl Try.runUnderlying43 rfl Try.sizeOf3 (by decide)) ?_
      refine w_x rfl (fun w1 h1 => x_load rfl (ld_blk ((S6.step h1).blk 1 rfl) Try.isAgg3 rfl)) ?_
      refine w_x rfl (fun w1 h1 => x_fieldAddr rfl Try.runUnderlying24 rfl Try.sizeOf22 (by decide)) ?_
      refine w_x rfl (fun w1 h1 => x_load rfl (ld_blk ((S6.step h1).blk 0 rfl) Try.isAgg22 rfl)) ?_
      refine w_x rfl (fun w1 h1 => x_len (hA.le (S6.step h1).le) rfl Try.runUnderlying22) ?_
      refine w_x rfl (fun w1 h1 => x_sub rfl rfl (by omega)) ?_
      refine wd_call [] [] [_, _, _] rfl rfl Try.call64 rfl (fun w1 h1 => c_in _ _ _ _) ?_
      refine w_x rfl (fun w1 h1 => x_pick_t rfl rfl) ?_
      refine w_x rfl (fun w1 h1 => x_mv rfl) ?_
      refine w_splitd (d := 27) rfl (fun hg27 => ?_) (fun hg27 => ?_)
      · skip
        obtain ⟨a, ha⟩ : ∃ a, arcs[A.toNat]? = some a := ⟨_, List.getElem?_eq_getElem (by omega)⟩
        refine w_x rfl (fun w1 h1 => x_fieldAddr rfl Try.runUnderlying24 rfl Try.sizeOf22 (by decide)) ?_
        refine w_x rfl (fun w1 h1 => x_load rfl (ld_blk ((S6.step h1).blk 0 rfl) Try.isAgg22 rfl)) ?_
        refine w_x rfl (fun w1 h1 => x_fieldAddr rfl Try.runUnderlying43 rfl Try.sizeOf3 (by decide)) ?_
        refine w_x rfl (fun w1 h1 => x_load rfl (ld_blk ((S6.step h1).blk 1 rfl) Try.isAgg3 rfl)) ?_
        refine w_index EA rfl (hA.le S6.le) rfl rfl Try.runUnderlying22 Try.sizeOf39 (by omega) (by first | assumption | exact List.getElem?_eq_getElem (by omega)) ?_
        intro b9 o10 hat11 row12
        refine w_x rfl (fun w1 h1 => x_fieldAddr rfl Try.runUnderlying39 rfl Try.sizeOf3 (by decide)) ?_
        refine w_x rfl (fun w1 h1 => x_load rfl (ld_cell Try.isAgg3 ((row12.le h1) 2 _ rfl))) ?_
        refine w_x rfl (fun w1 h1 => x_fieldAddr rfl Try.runUnderlying24 rfl Try.sizeOf22 (by decide)) ?_
        refine w_x rfl (fun w1 h1 => x_load rfl (ld_blk ((S6.step h1).blk 0 rfl) Try.isAgg22 rfl)) ?_
        refine w_x rfl (fun w1 h1 => x_fieldAddr rfl Try.runUnderlying43 rfl Try.sizeOf3 (by decide)) ?_
        refine w_x rfl (fun w1 h1 => x_load rfl (ld_blk ((S6.step h1).blk 1 rfl) Try.isAgg3 rfl)) ?_
        refine w_index EA rfl (hA.le S6.le) rfl rfl Try.runUnderlying22 Try.sizeOf39 (by omega) (by first | assumption | exact List.getElem?_eq_getElem (by omega)) ?_
        intro b13 o14 hat15 row16
        refine w_x rfl (fun w1 h1 => x_fieldAddr rfl Try.runUnderlying39 rfl Try.sizeOf3 (by decide)) ?_
        refine w_x rfl (fun w1 h1 => x_load rfl (ld_cell Try.isAgg3 ((row16.le h1) 3 _ rfl))) ?_
        refine w_x rfl (fun w1 h1 => x_gtr rfl rfl) ?_
        refine w_x rfl (fun w1 h1 => x_pick_t rfl rfl) ?_
        refine w_x rfl (fun w1 h1 => x_as rfl) ?_
        refine w_nil ?_
        intro w17 hl18
        have S19 := S6.step hl18
        refine l_nil ?_
        refine r_ret (rs := [.tmp 4]) [_] Try.func77 rfl ⟨rfl, trivial⟩ ?_
        exact ⟨congrArg Value.bool (by rw [hind, if_pos hc13, bad, ha]; simp [hg18, hg27]), S19.le⟩
      · skip
        refine w_pass rfl ?_
        refine w_pass rfl ?_
        refine w_pass rfl ?_
        refine w_pass rfl ?_
        refine w_pass rfl ?_
        refine w_pass rfl ?_
        refine w_pass rfl ?_
        refine w_pass rfl ?_
        refine w_pass rfl ?_
        refine w_pass rfl ?_
        refine w_pass rfl ?_
        refine w_pass rfl ?_
        refine w_pass rfl ?_
        refine w_pass rfl ?_
        refine w_pass rfl ?_
        refine w_x rfl (fun w1 h1 => x_pick_f rfl rfl) ?_
        refine w_x rfl (fun w1 h1 => x_as rfl) ?_
        refine w_nil ?_
        intro w20 hl21
        have S22 := S6.step hl21
        refine l_nil ?_
        refine r_ret (rs := [.tmp 4]) [_] Try.func77 rfl ⟨rfl, trivial⟩ ?_
        exact ⟨congrArg Value.bool (by rw [hind, if_pos hc13, bad, decide_eq_false hg27]; simp), S22.le⟩
    · skip
      refine w_pass rfl ?_
      refine w_pass rfl ?_
      refine w_pass rfl ?_
      refine w_pass rfl ?_
      refine w_pass rfl ?_
      refine w_pass rfl ?_
      refine w_pass rfl ?_
      refine w_x rfl (fun w1 h1 => x_pick_f rfl rfl) ?_
      refine w_x rfl (fun w1 h1 => x_mv rfl) ?_
      refine w_pass rfl ?_
      refine w_pass rfl ?_
      refine w_pass rfl ?_
      refine w_pass rfl ?_
      refine w_pass rfl ?_
      refine w_pass rfl ?_
      refine w_pass rfl ?_
      refine w_pass rfl ?_
      refine w_pass rfl ?_
      refine w_pass rfl ?_
      refine w_pass rfl ?_
      refine w_pass rfl ?_
      refine w_pass rfl ?_
      refine w_pass rfl ?_
      refine w_pass rfl ?_
      refine w_x rfl (fun w1 h1 => x_pick_f rfl rfl) ?_
      refine w_x rfl (fun w1 h1 => x_as rfl) ?_
      refine w_nil ?_
      intro w23 hl24
      have S25 := S6.step hl24
      refine l_nil ?_
      refine r_ret (rs := [.tmp 4]) [_] Try.func77 rfl ⟨rfl, trivial⟩ ?_
      exact ⟨congrArg Value.bool (by rw [hind, if_pos hc13, decide_eq_false hg18]; rfl), S25.le⟩
  · skip
    refine r_skip ?_
    refine r_seq ?_
    refine r_region ?_
    refine l_x rfl (x_as rfl) ?_
    refine l_nil ?_
    refine r_seq ?_
    refine r_seq ?_
    refine r_region ?_
    refine l_x rfl (x_fieldAddr rfl Try.runUnderlying43 rfl Try.sizeOf25 (by decide)) ?_
    refine l_x rfl (x_load rfl (ld_blk (S6.blk 1 rfl) Try.isAgg25 rfl)) ?_
    refine l_x rfl (x_len (Hn.le S6.le) rfl Try.runUnderlying25) ?_
    refine l_x rfl (x_mv rfl) ?_
    refine l_nil ?_
    refine r_block ?_
    refine r_loop (G := Nat × Int × List Int) (fun ⟨i, last, rest⟩ => ns.length - i) (fun ⟨i, last, rest⟩ => [(2, .pointer (some ⟨b4, 0, none⟩)), (3, .pointer (some ⟨b8, 0, none⟩)), (45, vn), (47, .int .i64 i), (46, .int .i64 ns.length), (5, .int .i64 last)]) (fun ⟨i, last, rest⟩ w' => (i ≤ ns.length) ∧ (ns.drop i = rest) ∧ (asc N (-1) ns = asc N last rest) ∧ (-1 ≤ last ∧ last ≤ 1000) ∧ Own nob w w' [blk b4 [.int .i64 N, va] 24, blk b8 [.int .i64 A, vn] 43]) (0, -1, ns) ⟨rfl, rfl, rfl, rfl, rfl, rfl, trivial⟩ ⟨Nat.zero_le _, List.drop_zero, rfl, by omega, S6⟩ ?_
    rintro ⟨i, last, rest⟩ ρ w1 ⟨hi, hrest, hasc, hlast, S1⟩ IH
    refine r_seq ?_
    refine r_region ?_
    refine l_x rfl (x_lss rfl rfl) ?_
    refine l_nil ?_
    refine r_seq ?_
    refine r_ifd rfl (fun hc48 => ?_) (fun hc48 => ?_)
    · skip
      obtain ⟨v0, hv0⟩ : ∃ v0, ns[i]? = some v0 := ⟨_, List.getElem?_eq_getElem (by omega)⟩
      have hr0 : rest = v0 :: ns.drop (i + 1) := by rw [← hrest, List.drop_eq_getElem_cons (by omega), (List.getElem?_eq_some_iff.1 hv0).2]
      refine r_skip ?_
      refine r_seq ?_
      refine r_block ?_
      refine r_seq ?_
      refine r_region ?_
      refine l_index EI rfl (Hn.le S1.le) rfl rfl Try.runUnderlying25 Try.sizeOf3 (by omega) (by first | assumption | exact List.getElem?_eq_getElem (by omega)) ?_
      intro b26 o27 hat28 row29
      refine l_x rfl (x_load rfl (ld_cell Try.isAgg3 (row29 0 _ rfl))) ?_
      refine l_x rfl (x_as rfl) ?_
      refine l_nil ?_
      refine r_seq ?_
      refine r_seq ?_
      refine r_region ?_
      refine l_x rfl (x_mv rfl) ?_
      refine l_x rfl (x_mv rfl) ?_
      refine l_x rfl (x_add rfl rfl (by omega)) ?_
      refine l_x rfl (x_fieldAddr rfl Try.runUnderlying24 rfl Try.sizeOf3 (by decide)) ?_
      refine l_x rfl (x_load rfl (ld_blk (S1.blk 0 rfl) Try.isAgg3 rfl)) ?_
      refine l_x rfl (x_sub rfl rfl (by omega)) ?_
      refine l_call [] [] [_, _, _] rfl rfl Try.call64 rfl (c_in _ _ _ _) ?_
      rintro _ w30 ⟨rfl, hl32⟩
      have S31 := S1.step hl32
      refine l_x rfl (x_notd rfl) ?_
      refine l_nil ?_
      refine r_ifd rfl (fun hc58 => ?_) (fun hc58 => ?_)
      · skip
        refine r_seq ?_
        refine r_region ?_
        refine l_x rfl (x_as rfl) ?_
        refine l_nil ?_
        refine r_ret (rs := [.tmp 4]) [_] Try.func77 rfl ⟨rfl, trivial⟩ ?_
        exact ⟨congrArg Value.bool (by rw [hind, if_neg hc13, hasc, hr0, asc, decide_eq_false hc58]; rfl), S31.le⟩
      · skip
        refine r_skip ?_
        refine r_region ?_
        refine l_x rfl (x_mv rfl) ?_
        refine l_x rfl (x_as rfl) ?_
        refine l_nil ?_
        refine r_inBlock ?_
        refine r_region ?_
        refine l_x rfl (x_add rfl rfl (by omega)) ?_
        refine l_x rfl (x_mv rfl) ?_
        refine l_nil ?_
        exact IH (i + 1, v0, ns.drop (i + 1)) _ _ (by dsimp only; omega) ⟨rfl, rfl, rfl, rfl, rfl, rfl, trivial⟩ ⟨by omega, rfl, by rw [hasc, hr0, asc, decide_eq_true (Decidable.not_not.1 hc58), Bool.true_and], by omega, S31⟩
    · skip
      have hend : rest = [] := by rw [← hrest, List.drop_eq_nil_of_le (by omega)]
      rw [hend, asc] at hasc
      have hnb : ∀ v ∈ ns, 0 ≤ v ∧ v < N := fun v hv => by have := asc_mem ns (-1) hasc v hv; omega
      refine r_exit rfl ?_
      refine r_seq ?_
      refine r_region ?_
      refine l_alloc S1 rfl Try.zeroValue3 rfl ?_
      intro b36 w33 S34 hl35
      refine l_storeq (c' := [_]) S34 2 rfl rfl rfl rfl rfl Try.sizeOf3 (by simp) rfl ?_
      intro w37 S38 hk39
      refine l_nil ?_
      refine r_seq ?_
      refine r_seq ?_
      refine r_region ?_
      refine l_x rfl (x_load rfl (ld_blks (S38.blk 0 rfl) Try.isAgg24 Try.sizeOf24 rfl rfl)) ?_
      refine l_x rfl (x_fieldAddr rfl Try.runUnderlying43 rfl Try.sizeOf25 (by decide)) ?_
      refine l_x rfl (x_load rfl (ld_blk (S38.blk 1 rfl) Try.isAgg25 rfl)) ?_
      refine l_call [] [] [_, _] rfl rfl Try.call81 rfl (c_cut N va arcs _ ns hV hnb (by omega) _ (Hn.le S38.le)) ?_
      rintro _ w40 ⟨b43, b44, v45, rfl, h42⟩
      have S41 := S38.join h42
      refine l_nil ?_
      refine r_block ?_
      refine r_rangeFunc [] [_, _] S41 rfl rfl Try.call128 ?_
      intro D46 l47 w48 S49 hl50
      have S51 : Own _ _ _ [_, _, _, _, _, _, _, _] := S49.pick [3, 4, 5, 0, 1, 2, 6, 7] (by decide) rfl
      have S52 := Own.pack (A := [_, _, _]) (L := [_, _, _, _, _]) S51
      refine (c_cut1 N va arcs ns hV _ _ _ _ nob w (fun _ h => h.elim) hA (fun t r => r = pack [_, _, blk b36 [.int .i64 (csum t)] 3, _, _]) ?_ _ rfl _ S52).mono ?_
      · skip
        rintro t _ a o w1 rfl ⟨s, hin⟩ hS
        have S53 := hS.open
        have hb := csum_bd_prefix hV hin
        have hok := okArc_iff.1 (hV.ok a (mem_cutl (ns := ns) (o := o) (by rw [hin]; simp)))
        refine yl_of_run (S53.obj 4 rfl) rfl (fun c cs => ?_)
        refine r_seq ?_
        refine r_region ?_
        refine l_alloc S53 rfl Try.zeroValue39 rfl ?_
        intro b57 w54 S55 hl56
        refine l_stores S55 5 rfl rfl rfl rfl (EA.one _) Try.sizeOf39 (by first | exact Nat.le_refl _ | simp) (splice_all rfl) ?_
        intro w58 S59 hk60
        refine l_nil ?_
        refine r_region ?_
        refine l_x rfl (x_as rfl) ?_
        refine l_nil ?_
        refine r_beginRound S59 4 rfl rfl ?_
        intro w61 S62 hk63
        refine r_block ?_
        refine r_seq ?_
        refine r_region ?_
        refine l_x rfl (x_mv rfl) ?_
        refine l_nil ?_
        refine r_if rfl (fun hc67 => ?_) (fun hc67 => ?_)
        · skip
          refine r_region ?_
          refine l_x rfl (x_load rfl (ld_blk (S62.blk 2 rfl) Try.isAgg3 rfl)) ?_
          refine l_x rfl (x_fieldAddr rfl Try.runUnderlying39 rfl Try.sizeOf3 (by decide)) ?_
          refine l_x rfl (x_load rfl (ld_blk (S62.blk 5 rfl) Try.isAgg3 rfl)) ?_
          refine l_x rfl (x_add rfl rfl (by omega)) ?_
          refine l_storeq (c' := [_]) S62 2 rfl rfl rfl rfl rfl Try.sizeOf3 (by simp) rfl ?_
          intro w64 S65 hk66
          refine l_nil ?_
          refine r_inBlock ?_
          refine r_roundEnd S65 4 rfl ?_
          intro w67 S68
          exact ⟨_, rfl, rfl, by rw [csum_snoc, hc67]; exact (S68.take 5).close⟩
        · skip
          refine r_region ?_
          refine l_x rfl (x_load rfl (ld_blk (S62.blk 2 rfl) Try.isAgg3 rfl)) ?_
          refine l_x rfl (x_fieldAddr rfl Try.runUnderlying39 rfl Try.sizeOf3 (by decide)) ?_
          refine l_x rfl (x_load rfl (ld_blk (S62.blk 5 rfl) Try.isAgg3 rfl)) ?_
          refine l_x rfl (x_sub rfl rfl (by omega)) ?_
          refine l_storeq (c' := [_]) S62 2 rfl rfl rfl rfl rfl Try.sizeOf3 (by simp) rfl ?_
          intro w69 S70 hk71
          refine l_nil ?_
          refine r_inBlock ?_
          refine r_roundEnd S70 4 rfl ?_
          intro w72 S73
          exact ⟨_, rfl, rfl, by rw [csum_snoc, hc67]; exact (S73.take 5).close⟩
      rintro _ w74 ⟨_, rfl, hback75⟩
      have S76 := Own.unpack (A := [_, _, _]) (L := [_, _, _, _, _]) hback75
      refine r_endRange S76 7 rfl rfl ?_
      intro w77 S78 hk79
      refine r_inBlock ?_
      refine r_seq ?_
      refine r_region ?_
      refine l_x rfl (x_load rfl (ld_blk (S78.blk 5 rfl) Try.isAgg3 rfl)) ?_
      refine l_x rfl (x_gtr rfl rfl) ?_
      refine l_x rfl (x_as rfl) ?_
      refine l_nil ?_
      refine r_retL rfl ?_
      refine leave_mark S78 6 rfl ?_
      intro w80 S81 hk82
      refine leave_done (rs := [.tmp 4]) [_] Try.func77 rfl ⟨rfl, trivial⟩ ?_
      exact ⟨congrArg Value.bool (by rw [hind, if_neg hc13, hasc, Bool.true_and]), S81.le⟩

/-- couchant/flow.CheckObstacle. -/
theorem c_CheckObstacle (N : Int) (va : Value) (arcs : List Arc) (A : Int) (vn : Value) (ns : List Int) (hmx : ns.length ≤ 9223372036854775807) (w : World) (hA : Rd EA w va arcs) (Hn : Rd EI w vn ns) :
    Cl Try.prog 25 #[.agg #[.int .i64 N, va], .agg #[.int .i64 A, vn]] w fun v w' => v = .tuple #[.bool (decide (chk N arcs = 0) && hind N arcs A ns), .int .i64 (chk N arcs)] ∧ Le w w' := by
  refine fn_of_run (args := [_, _]) 15 Try.func25 rfl rfl rfl fun cs => ?_
  have S := Own.start (X := nob) w
  refine r_seq ?_
  refine r_region ?_
  refine l_box S rfl rfl ?_
  intro b4 w1 S2 hl3
  refine l_box S2 rfl rfl ?_
  intro b8 w5 S6 hl7
  refine l_x rfl (x_as rfl) ?_
  refine l_x rfl (x_as rfl) ?_
  refine l_nil ?_
  refine r_seq ?_
  refine r_seq ?_
  refine r_region ?_
  refine l_x rfl (x_load rfl (ld_blks (S6.blk 0 rfl) Try.isAgg24 Try.sizeOf24 rfl rfl)) ?_
  refine l_call [] [] [_] rfl rfl Try.call36 rfl (c_Check N va arcs _ (hA.le S6.le)) ?_
  rintro _ w9 ⟨rfl, hl11⟩
  have S10 := S6.step hl11
  refine l_x rfl (x_as rfl) ?_
  refine l_nil ?_
  refine r_seq ?_
  refine r_region ?_
  refine l_x rfl (x_mv rfl) ?_
  refine l_x rfl (x_neq rfl rfl) ?_
  refine l_nil ?_
  refine r_ifd rfl (fun hc10 => ?_) (fun hc10 => ?_)
  · skip
    refine r_seq ?_
    refine r_region ?_
    refine l_x rfl (x_mv rfl) ?_
    refine l_x rfl (x_as rfl) ?_
    refine l_x rfl (x_as rfl) ?_
    refine l_nil ?_
    refine r_ret (rs := [.tmp 4, .tmp 5]) [_, _] Try.func25 rfl ⟨rfl, rfl, trivial⟩ ?_
    exact ⟨by show Value.tuple #[.bool false, .int .i64 _] = _; simp [hc10], S10.le⟩
  · skip
    have hV := chk_zero.1 (Decidable.not_not.1 hc10)
    refine r_skip ?_
    refine r_seq ?_
    refine r_region ?_
    refine l_x rfl (x_load rfl (ld_blks (S10.blk 0 rfl) Try.isAgg24 Try.sizeOf24 rfl rfl)) ?_
    refine l_x rfl (x_load rfl (ld_blks (S10.blk 1 rfl) Try.isAgg43 Try.sizeOf43 rfl rfl)) ?_
    refine l_call [] [] [_, _] rfl rfl Try.call77 rfl (c_hinders N va arcs _ _ _ hV (by omega) _ (hA.le S10.le) (Hn.le S10.le)) ?_
    rintro _ w12 ⟨rfl, hl14⟩
    have S13 := S10.step hl14
    refine l_x rfl (x_as rfl) ?_
    refine l_x rfl (x_as rfl) ?_
    refine l_nil ?_
    refine r_ret (rs := [.tmp 4, .tmp 5]) [_, _] Try.func25 rfl ⟨rfl, rfl, trivial⟩ ?_
    have h0 := Decidable.not_not.1 hc10
    exact ⟨by show Value.tuple #[.bool _, .int .i64 0] = _; simp [h0], S13.le⟩

/-- couchant/flow.ObstacleRecords$1. -/
theorem c_ObstacleRecords1 (N : Int) (va : Value) (arcs : List Arc) (A : Int) (vn : Value) (ns : List Int) (b0 b1 : Nat) (hV : Valid N arcs) (hmx : ns.length ≤ 9223372036854775807) (w : World) (h0 : Blk w b0 [.int .i64 N, va] 24) (h1 : Blk w b1 [.int .i64 A, vn] 43) (hA : Rd EA w va arcs) (Hn : Rd EI w vn ns) :
    Cl Try.prog 79 #[.pointer (some ⟨b0, 0, none⟩), .pointer (some ⟨b1, 0, none⟩)] w fun v w' => v = .bool (hind N arcs A ns) ∧ Le w w' := by
  refine fn_of_run (args := [_, _]) 6 Try.func79 rfl rfl rfl fun cs => ?_
  have S := Own.start (X := nob) w
  refine r_seq ?_
  refine r_region ?_
  refine l_x rfl (x_as rfl) ?_
  refine l_nil ?_
  refine r_seq ?_
  refine r_region ?_
  refine l_x rfl (x_load rfl (ld_blks (h0.keep S.le id) Try.isAgg24 Try.sizeOf24 rfl rfl)) ?_
  refine l_x rfl (x_load rfl (ld_blks (h1.keep S.le id) Try.isAgg43 Try.sizeOf43 rfl rfl)) ?_
  refine l_call [] [] [_, _] rfl rfl Try.call77 rfl (c_hinders N va arcs _ _ _ hV (by omega) _ (hA.le S.le) (Hn.le S.le)) ?_
  rintro _ w1 ⟨rfl, hl3⟩
  have S2 := S.step hl3
  refine l_x rfl (x_as rfl) ?_
  refine l_nil ?_
  refine r_ret (rs := [.tmp 2]) [_] Try.func79 rfl ⟨rfl, trivial⟩ ?_
  exact ⟨rfl, S2.le⟩

theorem yl_end6 {X : Nat → Prop} {w w' : World} {A B D O : Rsc} {bo : Nat} {v' : Value} {l' l : List Int} (h : Own X w w' [A, B, blk bo [v'] 25, vec EI v' l', D, O]) (e : l' = l) :
    ∃ r', Value.bool true = .bool true ∧ (∃ v, r' = pack [A, B, blk bo [v] 25, vec EI v l, D, O]) ∧ Own X w w' [r'] := ⟨_, rfl, ⟨v', rfl⟩, by subst e; exact h.close⟩

/-- couchant/flow.ObstacleRecords. -/
theorem c_ObstacleRecords (N : Int) (va : Value) (arcs : List Arc) (A : Int) (vn : Value) (ns : List Int) (hmx : ns.length ≤ 9223372036854775807) (w : World) (hA : Rd EA w va arcs) (Hn : Rd EI w vn ns) :
    Cl Try.prog 27 #[.agg #[.int .i64 N, va], .agg #[.int .i64 A, vn]] w fun v w' => ∃ s, v = .tuple #[s, .int .i64 (askd N arcs (hind N arcs A ns))] ∧ New w w' (vec EI s (if askd N arcs (hind N arcs A ns) = 0 then orec arcs A ns else [])) ∧ Le w w' := by
  refine fn_of_run (args := [_, _]) 60 Try.func27 rfl rfl rfl fun cs => ?_
  have S := Own.start (X := nob) w
  refine r_seq ?_
  refine r_region ?_
  refine l_box S rfl rfl ?_
  intro b4 w1 S2 hl3
  refine l_box S2 rfl rfl ?_
  intro b8 w5 S6 hl7
  refine l_x rfl (x_as rfl) ?_
  refine l_x rfl (x_as rfl) ?_
  refine l_nil ?_
  refine r_seq ?_
  refine r_seq ?_
  refine r_region ?_
  refine l_x rfl (x_load rfl (ld_blks (S6.blk 0 rfl) Try.isAgg24 Try.sizeOf24 rfl rfl)) ?_
  refine l_x rfl (x_func rfl rfl) ?_
  refine l_call [] [] [_, _] rfl rfl Try.call62 rfl (c_asked N va arcs (hind N arcs A ns) 79 [_, _] _ (hA.le S6.le) Try.call79 (fun hv w1 h1 => c_ObstacleRecords1 N va arcs A vn ns _ _ (chk_zero.1 hv) (by omega) w1 ((S6.blk 0 rfl).keep h1 id) ((S6.blk 1 rfl).keep h1 id) (hA.le (S6.le.trans h1)) (Hn.le (S6.le.trans h1)))) ?_
  rintro _ w9 ⟨rfl, hl11⟩
  have S10 := S6.step hl11
  refine l_x rfl (x_as rfl) ?_
  refine l_nil ?_
  refine r_seq ?_
  refine r_region ?_
  refine l_x rfl (x_mv rfl) ?_
  refine l_x rfl (x_neq rfl rfl) ?_
  refine l_nil ?_
  refine r_ifd rfl (fun hc14 => ?_) (fun hc14 => ?_)
  · skip
    refine r_seq ?_
    refine r_region ?_
    refine l_x rfl (x_mv rfl) ?_
    refine l_x rfl (x_as rfl) ?_
    refine l_x rfl (x_as rfl) ?_
    refine l_nil ?_
    refine r_ret (rs := [.tmp 4, .tmp 5]) [_, _] Try.func27 rfl ⟨rfl, rfl, trivial⟩ ?_
    exact ⟨_, rfl, by rw [if_neg hc14]; exact New.nilvec .., S10.le⟩
  · skip
    have h0 := Decidable.not_not.1 hc14
    obtain ⟨hV, hq⟩ := askd_zero.1 h0
    refine r_skip ?_
    refine r_seq ?_
    refine r_seq ?_
    refine r_region ?_
    refine l_x rfl (x_fieldAddr rfl Try.runUnderlying43 rfl Try.sizeOf3 (by decide)) ?_
    refine l_x rfl (x_load rfl (ld_blk (S10.blk 1 rfl) Try.isAgg3 rfl)) ?_
    refine l_x rfl (x_geq rfl rfl) ?_
    refine l_nil ?_
    refine r_ifd rfl (fun hc18 => ?_) (fun hc18 => ?_)
    · skip
      obtain ⟨a, ha, hbad⟩ := hind_bad hq hc18
      refine r_seq ?_
      refine r_drawR 14 Try.mixed (by kernel_rfl) ?_
      refine w_x rfl (fun w1 h1 => x_fieldAddr rfl Try.runUnderlying24 rfl Try.sizeOf22 (by decide)) ?_
      refine w_x rfl (fun w1 h1 => x_load rfl (ld_blk ((S10.step h1).blk 0 rfl) Try.isAgg22 rfl)) ?_
      refine w_x rfl (fun w1 h1 => x_fieldAddr rfl Try.runUnderlying43 rfl Try.sizeOf3 (by decide)) ?_
      refine w_x rfl (fun w1 h1 => x_load rfl (ld_blk ((S10.step h1).blk 1 rfl) Try.isAgg3 rfl)) ?_
      refine w_index EA rfl (hA.le S10.le) rfl rfl Try.runUnderlying22 Try.sizeOf39 (by omega) (by first | assumption | exact List.getElem?_eq_getElem (by omega)) ?_
      intro b12 o13 hat14 row15
      refine w_x rfl (fun w1 h1 => x_fieldAddr rfl Try.runUnderlying39 rfl Try.sizeOf3 (by decide)) ?_
      refine w_x rfl (fun w1 h1 => x_load rfl (ld_cell Try.isAgg3 ((row15.le h1) 4 _ rfl))) ?_
      refine w_x rfl (fun w1 h1 => x_fieldAddr rfl Try.runUnderlying24 rfl Try.sizeOf22 (by decide)) ?_
      refine w_x rfl (fun w1 h1 => x_load rfl (ld_blk ((S10.step h1).blk 0 rfl) Try.isAgg22 rfl)) ?_
      refine w_x rfl (fun w1 h1 => x_fieldAddr rfl Try.runUnderlying43 rfl Try.sizeOf3 (by decide)) ?_
      refine w_x rfl (fun w1 h1 => x_load rfl (ld_blk ((S10.step h1).blk 1 rfl) Try.isAgg3 rfl)) ?_
      refine w_index EA rfl (hA.le S10.le) rfl rfl Try.runUnderlying22 Try.sizeOf39 (by omega) (by first | assumption | exact List.getElem?_eq_getElem (by omega)) ?_
      intro b16 o17 hat18 row19
      refine w_x rfl (fun w1 h1 => x_fieldAddr rfl Try.runUnderlying39 rfl Try.sizeOf3 (by decide)) ?_
      refine w_x rfl (fun w1 h1 => x_load rfl (ld_cell Try.isAgg3 ((row19.le h1) 5 _ rfl))) ?_
      refine w_nil ?_
      intro w20 hl21
      have S22 := S10.step hl21
      refine l_buildSlice EI [_, _] S22 rfl Try.runUnderlying25 Try.sizeOf3 Try.zeroValue3 rfl ⟨rfl, rfl, rfl, rfl, trivial⟩ (Nat.le_of_ble_eq_true rfl) ?_
      intro v26 w23 S24 hl25
      refine l_call [] [] [_] rfl rfl Try.call80 rfl (c_listed _ _ (by first | (have := orecs_len (cutl ns arcs); have := cutl_len ns arcs; have := hV.len; omega) | simp) _ (S24.lend 2 rfl)) ?_
      intro v27 w28 hl30
      have S29 := S24.back 2 rfl hl30
      refine l_x rfl (x_as rfl) ?_
      refine l_x rfl (x_as rfl) ?_
      refine l_nil ?_
      refine r_ret (rs := [.tmp 4, .tmp 5]) [_, _] Try.func27 rfl ⟨rfl, rfl, trivial⟩ ?_
      exact ⟨_, congrArg (fun x => Value.tuple #[_, .int .i64 x]) h0.symm, by rw [if_pos h0, orec, if_pos hc18, ha]; exact S29.new 2 rfl, S29.le⟩
    · skip
      obtain ⟨hA1, hasc, hpos⟩ := hind_cut hq hc18
      have hnb : ∀ v ∈ ns, 0 ≤ v ∧ v < N := fun v hv => by have := asc_mem ns (-1) hasc v hv; omega
      refine r_skip ?_
      refine r_seq ?_
      refine r_region ?_
      refine l_alloc S10 rfl Try.zeroValue25 rfl ?_
      intro b34 w31 S32 hl33
      have S35 := S32.nilvec (E := EI)
      refine l_nil ?_
      refine r_seq ?_
      refine r_seq ?_
      refine r_region ?_
      refine l_x rfl (x_load rfl (ld_blks (S35.blk 0 rfl) Try.isAgg24 Try.sizeOf24 rfl rfl)) ?_
      refine l_x rfl (x_fieldAddr rfl Try.runUnderlying43 rfl Try.sizeOf25 (by decide)) ?_
      refine l_x rfl (x_load rfl (ld_blk (S35.blk 1 rfl) Try.isAgg25 rfl)) ?_
      refine l_call [] [] [_, _] rfl rfl Try.call81 rfl (c_cut N va arcs _ ns hV hnb (by omega) _ (Hn.le S35.le)) ?_
      rintro _ w36 ⟨b39, b40, v41, rfl, h38⟩
      have S37 := S35.join h38
      refine l_nil ?_
      refine r_block ?_
      refine r_rangeFunc [] [_, _] S37 rfl rfl Try.call128 ?_
      intro D42 l43 w44 S45 hl46
      have S47 : Own _ _ _ [_, _, _, _, _, _, _, _, _] := S45.pick [4, 5, 6, 0, 1, 2, 3, 7, 8] (by decide) rfl
      have S48 := Own.pack (A := [_, _, _]) (L := [_, _, _, _, _, _]) S47
      refine (c_cut1 N va arcs ns hV _ _ _ _ nob w (fun _ h => h.elim) hA (fun t r => ∃ v, r = pack [_, _, blk b34 [v] 25, vec EI v (orecs t), _, _]) ?_ _ ⟨_, rfl⟩ _ S48).mono ?_
      · skip
        rintro t _ a o w1 ⟨v0, rfl⟩ ⟨s, hin⟩ hS
        have S49 := hS.open
        have hb := cutl_len ns arcs
        have hLx := hV.len
        have htl : t.length < 4000 := by rw [hin] at hb; simp at hb; omega
        refine yl_of_run (S49.obj 5 rfl) rfl (fun c cs => ?_)
        refine r_seq ?_
        refine r_region ?_
        refine l_alloc S49 rfl Try.zeroValue39 rfl ?_
        intro b53 w50 S51 hl52
        refine l_stores S51 6 rfl rfl rfl rfl (EA.one _) Try.sizeOf39 (by first | exact Nat.le_refl _ | simp) (splice_all rfl) ?_
        intro w54 S55 hk56
        refine l_nil ?_
        refine r_region ?_
        refine l_x rfl (x_as rfl) ?_
        refine l_nil ?_
        refine r_beginRound S55 5 rfl rfl ?_
        intro w57 S58 hk59
        refine r_block ?_
        refine r_block ?_
        refine r_seq ?_
        refine r_region ?_
        refine l_x rfl (x_mv rfl) ?_
        refine l_x rfl (x_not rfl) ?_
        refine l_x rfl (x_as rfl) ?_
        refine l_nil ?_
        refine r_if rfl (fun hc41 => ?_) (fun hc41 => ?_)
        · skip
          have hc41 : o = false := by simpa using hc41
          refine r_region ?_
          refine l_x rfl (x_load rfl (ld_blk (S58.blk 2 rfl) Try.isAgg25 rfl)) ?_
          refine l_x rfl (x_fieldAddr rfl Try.runUnderlying39 rfl Try.sizeOf3 (by decide)) ?_
          refine l_x rfl (x_load rfl (ld_blk (S58.blk 6 rfl) Try.isAgg3 rfl)) ?_
          refine l_buildSlice EI [_] S58 rfl Try.runUnderlying25 Try.sizeOf3 Try.zeroValue3 rfl ⟨rfl, rfl, trivial⟩ (Nat.le_of_ble_eq_true rfl) ?_
          intro v63 w60 S61 hl62
          refine l_append EI S61 3 rfl rfl rfl rfl (vec_rd (S61.at 7 rfl)) Try.underlying25 info3 rfl rfl rfl (by have := orecs_len t; unfold maxLen; simp; omega) (by have := orecs_len t; show _ * 8 ≤ _; simp; omega) ?_
          intro v67 w64 S65 hk66 hv68
          refine l_storeq (c' := [_]) (v := v67) S65 2 rfl rfl rfl rfl (Rd.one (vec_rd (S65.at 3 rfl))) Try.sizeOf25 (by simp) rfl ?_
          intro w69 S70 hk71
          refine l_nil ?_
          refine r_inBlock ?_
          refine r_inBlock ?_
          refine r_roundEnd S70 5 rfl ?_
          intro w72 S73
          exact yl_end6 (S73.take 6) (by rw [hc41, orecs_snoc]; rfl)
        · skip
          have hc41 : o = true := by simpa using hc41
          refine r_seq ?_
          refine r_region ?_
          refine l_x rfl (x_fieldAddr rfl Try.runUnderlying39 rfl Try.sizeOf3 (by decide)) ?_
          refine l_x rfl (x_load rfl (ld_blk (S58.blk 6 rfl) Try.isAgg3 rfl)) ?_
          refine l_x rfl (x_gtr rfl rfl) ?_
          refine l_x rfl (x_as rfl) ?_
          refine l_nil ?_
          refine r_ifd rfl (fun hc49 => ?_) (fun hc49 => ?_)
          · skip
            refine r_region ?_
            refine l_x rfl (x_load rfl (ld_blk (S58.blk 2 rfl) Try.isAgg25 rfl)) ?_
            refine l_x rfl (x_fieldAddr rfl Try.runUnderlying39 rfl Try.sizeOf3 (by decide)) ?_
            refine l_x rfl (x_load rfl (ld_blk (S58.blk 6 rfl) Try.isAgg3 rfl)) ?_
            refine l_buildSlice EI [_] S58 rfl Try.runUnderlying25 Try.sizeOf3 Try.zeroValue3 rfl ⟨rfl, rfl, trivial⟩ (Nat.le_of_ble_eq_true rfl) ?_
            intro v77 w74 S75 hl76
            refine l_append EI S75 3 rfl rfl rfl rfl (vec_rd (S75.at 7 rfl)) Try.underlying25 info3 rfl rfl rfl (by have := orecs_len t; unfold maxLen; simp; omega) (by have := orecs_len t; show _ * 8 ≤ _; simp; omega) ?_
            intro v81 w78 S79 hk80 hv82
            refine l_storeq (c' := [_]) (v := v81) S79 2 rfl rfl rfl rfl (Rd.one (vec_rd (S79.at 3 rfl))) Try.sizeOf25 (by simp) rfl ?_
            intro w83 S84 hk85
            refine l_nil ?_
            refine r_inBlock ?_
            refine r_inBlock ?_
            refine r_roundEnd S84 5 rfl ?_
            intro w86 S87
            exact yl_end6 (S87.take 6) (by rw [hc41, orecs_snoc, Bool.not_true, rec1, if_pos hc49])
          · skip
            refine r_skip ?_
            refine r_inBlock ?_
            refine r_inBlock ?_
            refine r_roundEnd S58 5 rfl ?_
            intro w88 S89
            exact yl_end6 (S89.take 6) (by rw [hc41, orecs_snoc, Bool.not_true, rec1, if_neg hc49, List.append_nil])
      rintro _ w90 ⟨_, ⟨v9, rfl⟩, hback91⟩
      have S92 := Own.unpack (A := [_, _, _]) (L := [_, _, _, _, _, _]) hback91
      refine r_endRange S92 8 rfl rfl ?_
      intro w93 S94 hk95
      refine r_inBlock ?_
      refine r_seq ?_
      refine r_region ?_
      refine l_x rfl (x_load rfl (ld_blk (S94.blk 5 rfl) Try.isAgg25 rfl)) ?_
      refine l_call [] [] [_] rfl rfl Try.call80 rfl (c_listed _ _ (by first | (have := orecs_len (cutl ns arcs); have := cutl_len ns arcs; have := hV.len; omega) | simp) _ (S94.lend 6 rfl)) ?_
      intro v96 w97 hl99
      have S98 := S94.back 6 rfl hl99
      refine l_x rfl (x_as rfl) ?_
      refine l_x rfl (x_as rfl) ?_
      refine l_nil ?_
      refine r_retL rfl ?_
      refine leave_mark S98 7 rfl ?_
      intro w100 S101 hk102
      refine leave_done (rs := [.tmp 4, .tmp 5]) [_, _] Try.func27 rfl ⟨rfl, rfl, trivial⟩ ?_
      exact ⟨_, congrArg (fun x => Value.tuple #[_, .int .i64 x]) h0.symm, by rw [if_pos h0, orec, if_neg hc18]; exact S101.new 6 rfl, S101.le⟩

end Go.Proofs

/-
  Contracts of functions of the program: each by symbolic execution of its text.
-/
namespace Go.Proofs
open Go Go.Vk Go.Vk.Flow

/-- What is read of a net with amounts. -/
structure CarR (w : World) (bc : Nat) (N : Int) (va : Value) (arcs : List Arc) (vx : Value) (x : List Int) (vw : Value) (wl : List Int) (m p : Nat → Int) : Prop where
  blk : Blk w bc (carC N va vx vw m p) 91
  arcs : Rd EA w va arcs
  x : Rd EI w vx x
  w : Rd EI w vw wl
theorem CarR.le {w w' : World} {bc : Nat} {N : Int} {va : Value} {arcs : List Arc} {vx : Value} {x : List Int} {vw : Value} {wl : List Int} {m p : Nat → Int} (h : CarR w bc N va arcs vx x vw wl m p) (hl : Le w w') : CarR w' bc N va arcs vx x vw wl m p :=
  ⟨h.blk.keep hl id, h.arcs.le hl, h.x.le hl, h.w.le hl⟩

/-- (*couchant/flow.carried).steps. -/
theorem c_steps (N : Int) (va : Value) (arcs : List Arc) (vx : Value) (x : List Int) (vw : Value) (wl : List Int) (m p : Nat → Int) (hV : Valid N arcs) (hx0 : Amts arcs x) (hw0 : Wts arcs wl) (hp : ∀ v, -10000000 ≤ p v ∧ p v ≤ 10000000) (bc : Nat) (X : Nat → Prop) (u : World) (yl : Nat) (R : List Stp → Rsc → Prop)
    (hq : ∀ t r w1, R t r → Own X u w1 [r] → CarR w1 bc N va arcs vx x vw wl m p)
    (hy : ∀ t r s w1, R t r → (∃ s', stps p 0 arcs x wl = t ++ s :: s') → Own r.fp w1 w1 [r] → Yl Try.prog yl [Value.agg s.enc.toArray].toArray w1 fun v w2 => ∃ r', v = .bool true ∧ R (t ++ [s]) r' ∧ Own r.fp w1 w2 [r']) (r : Rsc) (hr : R [] r) (w : World) (S : Own X u w [r]) :
    Cl Try.prog 122 #[.pointer (some ⟨bc, 0, none⟩), .func (.yield yl) #[] #[]] w fun _ w' => ∃ r', R (stps p 0 arcs x wl) r' ∧ Own X u w' [r'] := by
  have hNx := hV.max
  have hLx := hV.len
  have hxl := hx0.len
  have hwl := hw0.len
  refine fn_of_run (args := [_, _]) 87 Try.func122 rfl rfl rfl fun cs => ?_
  refine r_seq ?_
  refine r_region ?_
  refine l_x rfl (x_mv rfl) ?_
  refine l_x rfl (x_nilCheck rfl) ?_
  refine l_x rfl (x_fieldAddr rfl Try.runUnderlying91 rfl Try.sizeOf24 (by decide)) ?_
  refine l_x rfl (x_fieldAddr rfl Try.runUnderlying24 rfl Try.sizeOf22 (by decide)) ?_
  refine l_x rfl (x_load rfl (ld_blk (hq _ _ _ (by assumption) (S.take 1)).blk Try.isAgg22 rfl)) ?_
  refine l_x rfl (x_len (hq _ _ _ (by assumption) (S.take 1)).arcs rfl Try.runUnderlying22) ?_
  refine l_x rfl (x_mv rfl) ?_
  refine l_nil ?_
  refine r_block ?_
  refine r_loop (G := Nat × Rsc) (fun ⟨i, r1⟩ => arcs.length - i) (fun ⟨i, r1⟩ => [(0, .pointer (some ⟨bc, 0, none⟩)), (1, .func (.yield yl) #[] #[]), (11, va), (13, .int .i64 i), (12, .int .i64 arcs.length)]) (fun ⟨i, r1⟩ w' => (i ≤ arcs.length) ∧ (R (stps p 0 (arcs.take i) (x.take i) (wl.take i)) r1) ∧ Own X u w' [r1]) (0, r) ⟨rfl, rfl, rfl, rfl, rfl, trivial⟩ ⟨Nat.zero_le _, by simpa [stps] using hr, (S.take 1)⟩ ?_
  rintro ⟨i, r1⟩ ρ w1 ⟨hi, hR, S1⟩ IH
  refine r_seq ?_
  refine r_region ?_
  refine l_x rfl (x_lss rfl rfl) ?_
  refine l_nil ?_
  refine r_seq ?_
  refine r_ifd rfl (fun hc14 => ?_) (fun hc14 => ?_)
  · skip
    obtain ⟨a, ha⟩ : ∃ a, arcs[i]? = some a := ⟨_, List.getElem?_eq_getElem (by omega)⟩
    obtain ⟨y, hy0⟩ : ∃ y, x[i]? = some y := ⟨_, List.getElem?_eq_getElem (by omega)⟩
    obtain ⟨q, hq0⟩ : ∃ q, wl[i]? = some q := ⟨_, List.getElem?_eq_getElem (by omega)⟩
    have hok := hV.at ha
    have hqb := hw0.at hq0
    have hp1 := hp a.src.toNat
    have hp2 := hp a.dst.toNat
    refine r_skip ?_
    refine r_seq ?_
    refine r_block ?_
    refine r_seq ?_
    refine r_region ?_
    refine l_x rfl (x_mv rfl) ?_
    refine l_index EA rfl (hq _ _ _ (by assumption) (S1.take 1)).arcs rfl rfl Try.runUnderlying22 Try.sizeOf39 (by omega) (by first | assumption | exact List.getElem?_eq_getElem (by omega)) ?_
    intro b1 o2 hat3 row4
    refine l_x rfl (x_load rfl (ld_row Try.isAgg39 Try.sizeOf39 rfl row4)) ?_
    refine l_alloc S1 rfl Try.zeroValue39 rfl ?_
    intro b8 w5 S6 hl7
    refine l_x rfl (x_as rfl) ?_
    refine l_stores S6 1 rfl rfl rfl rfl (EA.one _) Try.sizeOf39 (by first | exact Nat.le_refl _ | simp) (splice_all rfl) ?_
    intro w9 S10 hk11
    refine l_nil ?_
    refine r_seq ?_
    refine r_drawR 24 Try.mixed (by kernel_rfl) ?_
    refine w_x rfl (fun w1 h1 => x_mv rfl) ?_
    refine w_x rfl (fun w1 h1 => x_fieldAddr rfl Try.runUnderlying39 rfl Try.sizeOf3 (by decide)) ?_
    refine w_x rfl (fun w1 h1 => x_load rfl (ld_blk ((S10.step h1).blk 1 rfl) Try.isAgg3 rfl)) ?_
    refine w_x rfl (fun w1 h1 => x_nilCheck rfl) ?_
    refine w_x rfl (fun w1 h1 => x_fieldAddr rfl Try.runUnderlying91 rfl Try.sizeOf89 (by decide)) ?_
    refine w_x rfl (fun w1 h1 => x_indexAddr_array rfl rfl Try.runUnderlying89 Try.sizeOf3 (by omega)) ?_
    refine w_x rfl (fun w1 h1 => x_load rfl (ld_blk (hq _ _ _ (by assumption) ((S10.step h1).take 1)).blk Try.isAgg3 (carp_get rfl (by omega)))) ?_
    refine w_x rfl (fun w1 h1 => x_mv rfl) ?_
    refine w_x rfl (fun w1 h1 => x_fieldAddr rfl Try.runUnderlying39 rfl Try.sizeOf3 (by decide)) ?_
    refine w_x rfl (fun w1 h1 => x_load rfl (ld_blk ((S10.step h1).blk 1 rfl) Try.isAgg3 rfl)) ?_
    refine w_x rfl (fun w1 h1 => x_nilCheck rfl) ?_
    refine w_x rfl (fun w1 h1 => x_fieldAddr rfl Try.runUnderlying91 rfl Try.sizeOf89 (by decide)) ?_
    refine w_x rfl (fun w1 h1 => x_indexAddr_array rfl rfl Try.runUnderlying89 Try.sizeOf3 (by omega)) ?_
    refine w_x rfl (fun w1 h1 => x_load rfl (ld_blk (hq _ _ _ (by assumption) ((S10.step h1).take 1)).blk Try.isAgg3 (carp_get rfl (by omega)))) ?_
    refine w_x rfl (fun w1 h1 => x_sub rfl rfl (by omega)) ?_
    refine w_x rfl (fun w1 h1 => x_mv rfl) ?_
    refine w_x rfl (fun w1 h1 => x_nilCheck rfl) ?_
    refine w_x rfl (fun w1 h1 => x_fieldAddr rfl Try.runUnderlying91 rfl Try.sizeOf25 (by decide)) ?_
    refine w_x rfl (fun w1 h1 => x_load rfl (ld_blk (hq _ _ _ (by assumption) ((S10.step h1).take 1)).blk Try.isAgg25 rfl)) ?_
    refine w_x rfl (fun w1 h1 => x_mv rfl) ?_
    refine w_index EI rfl (hq _ _ _ (by assumption) (S10.take 1)).w rfl rfl Try.runUnderlying25 Try.sizeOf3 (by omega) (by first | assumption | exact List.getElem?_eq_getElem (by omega)) ?_
    intro b12 o13 hat14 row15
    refine w_x rfl (fun w1 h1 => x_load rfl (ld_cell Try.isAgg3 ((row15.le h1) 0 _ rfl))) ?_
    refine w_x rfl (fun w1 h1 => x_sub rfl rfl (by omega)) ?_
    refine w_x rfl (fun w1 h1 => x_as rfl) ?_
    refine w_nil ?_
    intro w16 hl17
    have S18 := S10.step hl17
    refine l_nil ?_
    refine r_seq ?_
    refine r_seq ?_
    refine r_slot 6 (.int .i64 (cst p a q)) rfl ?_
    have hcs : -30000000 ≤ cst p a q ∧ cst p a q ≤ 30000000 := by unfold cst; omega
    obtain ⟨s0, hs0⟩ := stps_mid p ha hy0 hq0
    refine r_drawR 19 Try.mixed (by kernel_rfl) ?_
    refine w_x rfl (fun w1 h1 => x_mv rfl) ?_
    refine w_x rfl (fun w1 h1 => x_nilCheck rfl) ?_
    refine w_x rfl (fun w1 h1 => x_fieldAddr rfl Try.runUnderlying91 rfl Try.sizeOf25 (by decide)) ?_
    refine w_x rfl (fun w1 h1 => x_load rfl (ld_blk (hq _ _ _ (by assumption) ((S18.step h1).take 1)).blk Try.isAgg25 rfl)) ?_
    refine w_x rfl (fun w1 h1 => x_mv rfl) ?_
    refine w_index EI rfl (hq _ _ _ (by assumption) (S18.take 1)).x rfl rfl Try.runUnderlying25 Try.sizeOf3 (by omega) (by first | assumption | exact List.getElem?_eq_getElem (by omega)) ?_
    intro b19 o20 hat21 row22
    refine w_x rfl (fun w1 h1 => x_load rfl (ld_cell Try.isAgg3 ((row22.le h1) 0 _ rfl))) ?_
    refine w_x rfl (fun w1 h1 => x_fieldAddr rfl Try.runUnderlying39 rfl Try.sizeOf3 (by decide)) ?_
    refine w_x rfl (fun w1 h1 => x_load rfl (ld_blk ((S18.step h1).blk 1 rfl) Try.isAgg3 rfl)) ?_
    refine w_x rfl (fun w1 h1 => x_lss rfl rfl) ?_
    refine w_x rfl (fun w1 h1 => x_mv rfl) ?_
    refine w_splitd (d := 51) rfl (fun hg51 => ?_) (fun hg51 => ?_)
    · skip
      refine w_x rfl (fun w1 h1 => x_mv rfl) ?_
      refine w_x rfl (fun w1 h1 => x_mv rfl) ?_
      refine w_x rfl (fun w1 h1 => x_fieldAddr rfl Try.runUnderlying39 rfl Try.sizeOf3 (by decide)) ?_
      refine w_x rfl (fun w1 h1 => x_load rfl (ld_blk ((S18.step h1).blk 1 rfl) Try.isAgg3 rfl)) ?_
      refine w_x rfl (fun w1 h1 => x_fieldAddr rfl Try.runUnderlying39 rfl Try.sizeOf3 (by decide)) ?_
      refine w_x rfl (fun w1 h1 => x_load rfl (ld_blk ((S18.step h1).blk 1 rfl) Try.isAgg3 rfl)) ?_
      refine w_x rfl (fun w1 h1 => x_mv rfl) ?_
      refine w_x rfl (fun w1 h1 => x_buildS (out := [_, _, _, _, _]) (ss := [1, 1, 1, 1, 1]) Try.zeroValue126 rfl Try.runUnderlying126 ⟨Try.sizeOf3, Try.sizeOf4, Try.sizeOf3, Try.sizeOf3, Try.sizeOf3, trivial⟩ (fill_cons rfl rfl rfl (Nat.le_of_ble_eq_true rfl) (fill_cons rfl rfl rfl (Nat.le_of_ble_eq_true rfl) (fill_cons rfl rfl rfl (Nat.le_of_ble_eq_true rfl) (fill_cons rfl rfl rfl (Nat.le_of_ble_eq_true rfl) (fill_cons rfl rfl rfl (Nat.le_of_ble_eq_true rfl) fill_nil)))))) ?_
      refine w_nil ?_
      intro w23 hl24
      have S25 := S18.step hl24
      refine l_yield [_] rfl rfl rfl (hy (stps p 0 (arcs.take i) (x.take i) (wl.take i)) r1 (fwd p i a q) _ hR ⟨(if a.lo < y then [bwd p i a q] else []) ++ s0, by rw [hs0, stp1, if_pos hg51]; simp only [List.cons_append, List.nil_append]⟩ (S25.lend 0 rfl)) ?_
      rintro _ w26 ⟨r29, rfl, hRr29, hback27⟩
      have S28 := S25.back 0 rfl hback27
      refine l_x rfl (x_not rfl) ?_
      refine l_x rfl (x_pick_t rfl rfl) ?_
      refine l_nil ?_
      refine r_false rfl ?_
      refine r_skip ?_
      refine r_seq ?_
      refine r_drawR 20 Try.mixed (by kernel_rfl) ?_
      refine w_x rfl (fun w1 h1 => x_mv rfl) ?_
      refine w_x rfl (fun w1 h1 => x_nilCheck rfl) ?_
      refine w_x rfl (fun w1 h1 => x_fieldAddr rfl Try.runUnderlying91 rfl Try.sizeOf25 (by decide)) ?_
      refine w_x rfl (fun w1 h1 => x_load rfl (ld_blk (hq _ _ _ (by assumption) ((S28.step h1).take 1)).blk Try.isAgg25 rfl)) ?_
      refine w_x rfl (fun w1 h1 => x_mv rfl) ?_
      refine w_index EI rfl (hq _ _ _ (by assumption) (S28.take 1)).x rfl rfl Try.runUnderlying25 Try.sizeOf3 (by omega) (by first | assumption | exact List.getElem?_eq_getElem (by omega)) ?_
      intro b30 o31 hat32 row33
      refine w_x rfl (fun w1 h1 => x_load rfl (ld_cell Try.isAgg3 ((row33.le h1) 0 _ rfl))) ?_
      refine w_x rfl (fun w1 h1 => x_fieldAddr rfl Try.runUnderlying39 rfl Try.sizeOf3 (by decide)) ?_
      refine w_x rfl (fun w1 h1 => x_load rfl (ld_blk ((S28.step h1).blk 1 rfl) Try.isAgg3 rfl)) ?_
      refine w_x rfl (fun w1 h1 => x_gtr rfl rfl) ?_
      refine w_x rfl (fun w1 h1 => x_mv rfl) ?_
      refine w_splitd (d := 73) rfl (fun hg73 => ?_) (fun hg73 => ?_)
      · skip
        refine w_x rfl (fun w1 h1 => x_mv rfl) ?_
        refine w_x rfl (fun w1 h1 => x_mv rfl) ?_
        refine w_x rfl (fun w1 h1 => x_fieldAddr rfl Try.runUnderlying39 rfl Try.sizeOf3 (by decide)) ?_
        refine w_x rfl (fun w1 h1 => x_load rfl (ld_blk ((S28.step h1).blk 1 rfl) Try.isAgg3 rfl)) ?_
        refine w_x rfl (fun w1 h1 => x_fieldAddr rfl Try.runUnderlying39 rfl Try.sizeOf3 (by decide)) ?_
        refine w_x rfl (fun w1 h1 => x_load rfl (ld_blk ((S28.step h1).blk 1 rfl) Try.isAgg3 rfl)) ?_
        refine w_x rfl (fun w1 h1 => x_mv rfl) ?_
        refine w_x rfl (fun w1 h1 => x_neg rfl (by omega)) ?_
        refine w_x rfl (fun w1 h1 => x_buildS (out := [_, _, _, _, _]) (ss := [1, 1, 1, 1, 1]) Try.zeroValue126 rfl Try.runUnderlying126 ⟨Try.sizeOf3, Try.sizeOf4, Try.sizeOf3, Try.sizeOf3, Try.sizeOf3, trivial⟩ (fill_cons rfl rfl rfl (Nat.le_of_ble_eq_true rfl) (fill_cons rfl rfl rfl (Nat.le_of_ble_eq_true rfl) (fill_cons rfl rfl rfl (Nat.le_of_ble_eq_true rfl) (fill_cons rfl rfl rfl (Nat.le_of_ble_eq_true rfl) (fill_cons rfl rfl rfl (Nat.le_of_ble_eq_true rfl) fill_nil)))))) ?_
        refine w_nil ?_
        intro w34 hl35
        have S36 := S28.step hl35
        refine l_yield [_] rfl rfl rfl (hy (stps p 0 (arcs.take i) (x.take i) (wl.take i) ++ [fwd p i a q]) r29 (bwd p i a q) _ hRr29 ⟨s0, by rw [hs0, stp1, if_pos hg51, if_pos hg73]; simp only [List.append_assoc, List.cons_append, List.nil_append]⟩ (S36.lend 0 rfl)) ?_
        rintro _ w37 ⟨r40, rfl, hRr40, hback38⟩
        have S39 := S36.back 0 rfl hback38
        refine l_x rfl (x_not rfl) ?_
        refine l_x rfl (x_pick_t rfl rfl) ?_
        refine l_nil ?_
        refine r_false rfl ?_
        refine r_skip ?_
        refine r_inBlock ?_
        refine r_region ?_
        refine l_x rfl (x_add rfl rfl (by omega)) ?_
        refine l_x rfl (x_mv rfl) ?_
        refine l_nil ?_
        exact IH (i + 1, r40) _ _ (by dsimp only; omega) ⟨rfl, rfl, rfl, rfl, rfl, trivial⟩ ⟨by omega, by rw [stps_take p ha hy0 hq0, stp1, if_pos hg51, if_pos hg73]; simpa only [List.append_assoc, List.cons_append, List.nil_append, List.append_nil] using hRr40, (S39.take 1)⟩
      · skip
        refine w_pass rfl ?_
        refine w_pass rfl ?_
        refine w_pass rfl ?_
        refine w_pass rfl ?_
        refine w_pass rfl ?_
        refine w_pass rfl ?_
        refine w_pass rfl ?_
        refine w_pass rfl ?_
        refine w_pass rfl ?_
        refine w_nil ?_
        intro w41 hl42
        have S43 := S28.step hl42
        refine l_pass rfl ?_
        refine l_pass rfl ?_
        refine l_x rfl (x_pick_f rfl rfl) ?_
        refine l_nil ?_
        refine r_false rfl ?_
        refine r_skip ?_
        refine r_inBlock ?_
        refine r_region ?_
        refine l_x rfl (x_add rfl rfl (by omega)) ?_
        refine l_x rfl (x_mv rfl) ?_
        refine l_nil ?_
        exact IH (i + 1, r29) _ _ (by dsimp only; omega) ⟨rfl, rfl, rfl, rfl, rfl, trivial⟩ ⟨by omega, by rw [stps_take p ha hy0 hq0, stp1, if_pos hg51, if_neg hg73]; simpa only [List.append_assoc, List.cons_append, List.nil_append, List.append_nil] using hRr29, (S43.take 1)⟩
    · skip
      refine w_pass rfl ?_
      refine w_pass rfl ?_
      refine w_pass rfl ?_
      refine w_pass rfl ?_
      refine w_pass rfl ?_
      refine w_pass rfl ?_
      refine w_pass rfl ?_
      refine w_pass rfl ?_
      refine w_nil ?_
      intro w44 hl45
      have S46 := S18.step hl45
      refine l_pass rfl ?_
      refine l_pass rfl ?_
      refine l_x rfl (x_pick_f rfl rfl) ?_
      refine l_nil ?_
      refine r_false rfl ?_
      refine r_skip ?_
      refine r_seq ?_
      refine r_drawR 20 Try.mixed (by kernel_rfl) ?_
      refine w_x rfl (fun w1 h1 => x_mv rfl) ?_
      refine w_x rfl (fun w1 h1 => x_nilCheck rfl) ?_
      refine w_x rfl (fun w1 h1 => x_fieldAddr rfl Try.runUnderlying91 rfl Try.sizeOf25 (by decide)) ?_
      refine w_x rfl (fun w1 h1 => x_load rfl (ld_blk (hq _ _ _ (by assumption) ((S46.step h1).take 1)).blk Try.isAgg25 rfl)) ?_
      refine w_x rfl (fun w1 h1 => x_mv rfl) ?_
      refine w_index EI rfl (hq _ _ _ (by assumption) (S46.take 1)).x rfl rfl Try.runUnderlying25 Try.sizeOf3 (by omega) (by first | assumption | exact List.getElem?_eq_getElem (by omega)) ?_
      intro b47 o48 hat49 row50
      refine w_x rfl (fun w1 h1 => x_load rfl (ld_cell Try.isAgg3 ((row50.le h1) 0 _ rfl))) ?_
      refine w_x rfl (fun w1 h1 => x_fieldAddr rfl Try.runUnderlying39 rfl Try.sizeOf3 (by decide)) ?_
      refine w_x rfl (fun w1 h1 => x_load rfl (ld_blk ((S46.step h1).blk 1 rfl) Try.isAgg3 rfl)) ?_
      refine w_x rfl (fun w1 h1 => x_gtr rfl rfl) ?_
      refine w_x rfl (fun w1 h1 => x_mv rfl) ?_
      refine w_splitd (d := 73) rfl (fun hg73 => ?_) (fun hg73 => ?_)
      · skip
        refine w_x rfl (fun w1 h1 => x_mv rfl) ?_
        refine w_x rfl (fun w1 h1 => x_mv rfl) ?_
        refine w_x rfl (fun w1 h1 => x_fieldAddr rfl Try.runUnderlying39 rfl Try.sizeOf3 (by decide)) ?_
        refine w_x rfl (fun w1 h1 => x_load rfl (ld_blk ((S46.step h1).blk 1 rfl) Try.isAgg3 rfl)) ?_
        refine w_x rfl (fun w1 h1 => x_fieldAddr rfl Try.runUnderlying39 rfl Try.sizeOf3 (by decide)) ?_
        refine w_x rfl (fun w1 h1 => x_load rfl (ld_blk ((S46.step h1).blk 1 rfl) Try.isAgg3 rfl)) ?_
        refine w_x rfl (fun w1 h1 => x_mv rfl) ?_
        refine w_x rfl (fun w1 h1 => x_neg rfl (by omega)) ?_
        refine w_x rfl (fun w1 h1 => x_buildS (out := [_, _, _, _, _]) (ss := [1, 1, 1, 1, 1]) Try.zeroValue126 rfl Try.runUnderlying126 ⟨Try.sizeOf3, Try.sizeOf4, Try.sizeOf3, Try.sizeOf3, Try.sizeOf3, trivial⟩ (fill_cons rfl rfl rfl (Nat.le_of_ble_eq_true rfl) (fill_cons rfl rfl rfl (Nat.le_of_ble_eq_true rfl) (fill_cons rfl rfl rfl (Nat.le_of_ble_eq_true rfl) (fill_cons rfl rfl rfl (Nat.le_of_ble_eq_true rfl) (fill_cons rfl rfl rfl (Nat.le_of_ble_eq_true rfl) fill_nil)))))) ?_
        refine w_nil ?_
        intro w51 hl52
        have S53 := S46.step hl52
        refine l_yield [_] rfl rfl rfl (hy (stps p 0 (arcs.take i) (x.take i) (wl.take i)) r1 (bwd p i a q) _ hR ⟨s0, by rw [hs0, stp1, if_neg hg51, if_pos hg73]; simp only [List.append_assoc, List.cons_append, List.nil_append]⟩ (S53.lend 0 rfl)) ?_
        rintro _ w54 ⟨r57, rfl, hRr57, hback55⟩
        have S56 := S53.back 0 rfl hback55
        refine l_x rfl (x_not rfl) ?_
        refine l_x rfl (x_pick_t rfl rfl) ?_
        refine l_nil ?_
        refine r_false rfl ?_
        refine r_skip ?_
        refine r_inBlock ?_
        refine r_region ?_
        refine l_x rfl (x_add rfl rfl (by omega)) ?_
        refine l_x rfl (x_mv rfl) ?_
        refine l_nil ?_
        exact IH (i + 1, r57) _ _ (by dsimp only; omega) ⟨rfl, rfl, rfl, rfl, rfl, trivial⟩ ⟨by omega, by rw [stps_take p ha hy0 hq0, stp1, if_neg hg51, if_pos hg73]; simpa only [List.append_assoc, List.cons_append, List.nil_append, List.append_nil] using hRr57, (S56.take 1)⟩
      · skip
        refine w_pass rfl ?_
        refine w_pass rfl ?_
        refine w_pass rfl ?_
        refine w_pass rfl ?_
        refine w_pass rfl ?_
        refine w_pass rfl ?_
        refine w_pass rfl ?_
        refine w_pass rfl ?_
        refine w_pass rfl ?_
        refine w_nil ?_
        intro w58 hl59
        have S60 := S46.step hl59
        refine l_pass rfl ?_
        refine l_pass rfl ?_
        refine l_x rfl (x_pick_f rfl rfl) ?_
        refine l_nil ?_
        refine r_false rfl ?_
        refine r_skip ?_
        refine r_inBlock ?_
        refine r_region ?_
        refine l_x rfl (x_add rfl rfl (by omega)) ?_
        refine l_x rfl (x_mv rfl) ?_
        refine l_nil ?_
        exact IH (i + 1, r1) _ _ (by dsimp only; omega) ⟨rfl, rfl, rfl, rfl, rfl, trivial⟩ ⟨by omega, by rw [stps_take p ha hy0 hq0, stp1, if_neg hg51, if_neg hg73]; simpa only [List.append_assoc, List.cons_append, List.nil_append, List.append_nil] using hR, (S60.take 1)⟩
  · skip
    have hi : i = arcs.length := by omega
    subst hi
    rw [List.take_length, List.take_of_length_le (by omega), List.take_of_length_le (by omega)] at hR
    refine r_exit rfl ?_
    refine r_end (rs := []) [] Try.func122 rfl trivial ?_
    exact ⟨_, hR, S1⟩

end Go.Proofs

/-
  Contracts of functions of the program: each by symbolic execution of its text.
-/
namespace Go.Proofs
open Go Go.Vk Go.Vk.Flow

/-- (*couchant/flow.carried).by. -/
theorem c_by (N : Int) (va : Value) (arcs : List Arc) (vx : Value) (x : List Int) (vw : Value) (wl : List Int) (m p : Nat → Int) (hV : Valid N arcs) (hx0 : Amts arcs x) (hw0 : Wts arcs wl) (hp : ∀ v, -10000000 ≤ p v ∧ p v ≤ 10000000) (bc : Nat) (w : World) (hq : CarR w bc N va arcs vx x vw wl m p) :
    Cl Try.prog 130 #[.pointer (some ⟨bc, 0, none⟩)] w fun v w' => ∃ hs, hs.length = N.toNat ∧ Own nob w w' [vec EH v hs, pack (nest ES hs (byl N (stps p 0 arcs x wl)))] := by
  have hNx := hV.max
  have hN1 := hV.pos
  have hLx := hV.len
  refine fn_of_run (args := [_]) 27 Try.func130 rfl rfl rfl fun cs => ?_
  have S := Own.start (X := nob) w
  refine r_seq ?_
  refine r_region ?_
  refine l_x rfl (x_as rfl) ?_
  refine l_nil ?_
  refine r_seq ?_
  refine r_region ?_
  refine l_x rfl (x_mv rfl) ?_
  refine l_x rfl (x_nilCheck rfl) ?_
  refine l_x rfl (x_fieldAddr rfl Try.runUnderlying91 rfl Try.sizeOf24 (by decide)) ?_
  refine l_x rfl (x_fieldAddr rfl Try.runUnderlying24 rfl Try.sizeOf3 (by decide)) ?_
  refine l_x rfl (x_load rfl (ld_blk (hq.le S.le).blk Try.isAgg3 rfl)) ?_
  refine l_make EH (none, 0, 0) S rfl Try.runUnderlying132 Try.sizeOf135 Try.typeInfo135 Try.zeroValue135 rfl rfl (congrArg (Value.int .i64) (Int.toNat_of_nonneg (by omega)).symm) (congrArg (Value.int .i64) (Int.toNat_of_nonneg (by omega)).symm) (Nat.le_refl _) (by unfold maxLen; omega) (by show _ * 24 ≤ _; omega) ?_
  intro v4 w1 hv5 S2 hl3
  refine l_alloc S2 rfl Try.zeroValue132 rfl ?_
  intro b9 w6 S7 hl8
  refine l_storeq (c' := [_]) (v := v4) S7 1 rfl rfl rfl rfl (Rd.one (vec_rd (S7.at 0 rfl))) Try.sizeOf132 (by simp) rfl ?_
  intro w10 S11 hk12
  refine l_nil ?_
  refine r_seq ?_
  refine r_seq ?_
  have Sn := S11.nest ES N.toNat
  rw [← byl_nil] at Sn
  refine r_region ?_
  refine l_x rfl (x_mv rfl) ?_
  refine l_x rfl (x_func rfl rfl) ?_
  refine l_nil ?_
  refine r_block ?_
  refine r_rangeFunc [_] [] Sn rfl rfl Try.call122 ?_
  intro D13 l14 w15 S16 hl17
  have S18 : Own _ _ _ [_, _, _, _, _] := S16.pick [0, 1, 2, 3, 4] (by decide) rfl
  have S19 := Own.pack (A := []) (L := [_, _, _, _, _]) S18
  refine (c_steps N va arcs vx x vw wl m p hV hx0 hw0 hp bc nob w _ (fun t r => ∃ hs : List Hd, hs.length = N.toNat ∧ r = pack [vec EH v4 hs, _, pack (nest ES hs (byl N t)), _, _]) (fun _ _ _ _ S' => hq.le S'.le) ?_ _ ⟨_, List.length_replicate, rfl⟩ _ S19).mono ?_
  · skip
    rintro t _ s w1 ⟨hs, hlen, rfl⟩ ⟨s1, hin⟩ hS
    have S20 := hS.open
    have hsb := stps_ok hV (s := s) (p := p) (x := x) (wl := wl) (by rw [hin]; simp)
    have htl : t.length < 8000 := by have h1 := stps_len p 0 arcs x wl; rw [hin] at h1; simp at h1; omega
    obtain ⟨h0, hh⟩ : ∃ h0, hs[s.src.toNat]? = some h0 := ⟨_, List.getElem?_eq_getElem (by omega)⟩
    refine yl_of_run (S20.obj 4 rfl) rfl (fun c cs => ?_)
    refine r_region ?_
    refine l_alloc S20 rfl Try.zeroValue126 rfl ?_
    intro b24 w21 S22 hl23
    refine l_stores S22 5 rfl rfl rfl rfl (ES.one _) Try.sizeOf126 (by first | exact Nat.le_refl _ | simp) (splice_all rfl) ?_
    intro w25 S26 hk27
    refine l_nil ?_
    refine r_beginRound S26 4 rfl rfl ?_
    intro w28 S29 hk30
    refine r_block ?_
    refine r_drawE 11 (Rsc.fp (pack (nest ES hs (byl N t)))) Try.mixed (by kernel_rfl) ?_
    intro w31 hl32
    have S33 := S29.step hl32
    refine e_exact 0 _ (by kernel_rfl) rfl rfl (by kernel_rfl) rfl (ex_x rfl (fun w1 h1 => x_load rfl (ld_blk ((S33.under 2 rfl h1).blk 1 rfl) Try.isAgg132 rfl))) ?_
    refine e_exact 1 _ (by kernel_rfl) rfl rfl (by kernel_rfl) rfl (ex_x rfl (fun w1 h1 => x_fieldAddr rfl Try.runUnderlying126 rfl Try.sizeOf3 (by decide))) ?_
    refine e_exact 2 _ (by kernel_rfl) rfl rfl (by kernel_rfl) rfl (ex_x rfl (fun w1 h1 => x_load rfl (ld_blk ((S33.under 2 rfl h1).blk 5 rfl) Try.isAgg3 rfl))) ?_
    refine e_exact 3 _ (by kernel_rfl) rfl rfl (by kernel_rfl) rfl (ex_x rfl (fun w1 h1 => x_load rfl (ld_blk ((S33.under 2 rfl h1).blk 1 rfl) Try.isAgg132 rfl))) ?_
    refine e_exact 4 _ (by kernel_rfl) rfl rfl (by kernel_rfl) rfl (ex_x rfl (fun w1 h1 => x_fieldAddr rfl Try.runUnderlying126 rfl Try.sizeOf3 (by decide))) ?_
    refine e_exact 5 _ (by kernel_rfl) rfl rfl (by kernel_rfl) rfl (ex_x rfl (fun w1 h1 => x_load rfl (ld_blk ((S33.under 2 rfl h1).blk 5 rfl) Try.isAgg3 rfl))) ?_
    refine e_index EH 6 (by kernel_rfl) rfl rfl (by kernel_rfl) rfl rfl (vec_rd (S33.at 0 rfl)) rfl rfl Try.runUnderlying132 Try.sizeOf135 (by omega) hh ?_
    intro b34 o35 hat36
    refine e_exact 7 _ (by kernel_rfl) rfl rfl (by kernel_rfl) rfl (ex_x rfl (fun w1 h1 => x_load rfl (ld_cell Try.isAgg135 ((rd_row (vec_rd ((S33.under 2 rfl h1).at 0 rfl)) hat36 hh) 0 _ rfl)))) ?_
    refine e_exact 8 _ (by kernel_rfl) rfl rfl (by kernel_rfl) rfl (ex_x rfl (fun w1 h1 => x_load rfl (ld_blks ((S33.under 2 rfl h1).blk 5 rfl) Try.isAgg126 Try.sizeOf126 rfl rfl))) ?_
    refine e_next [9] (by kernel_rfl) (by kernel_rfl) ⟨⟨_, _, rfl, rfl, ?_⟩, trivial⟩
    refine s_buildSlice ES [s] S33 rfl Try.runUnderlying135 Try.sizeOf126 Try.zeroValue126 rfl ⟨rfl, rfl, trivial⟩ (by decide) ?_
    intro v40 w37 S38 hl39
    refine ⟨.of_le hl39, ?_⟩
    refine e_next [10] (by kernel_rfl) (by kernel_rfl) ⟨⟨_, _, rfl, rfl, ?_⟩, trivial⟩
    have S41 := (S38.lend 2 rfl).open
    refine s_append ES S41 s.src.toNat (nest_get hh (byl_get (by omega))) rfl rfl rfl (vec_rd (S38.at 6 rfl)) Try.underlying135 info126 rfl rfl rfl (by have := List.length_filter_le (fun u : Stp => decide (u.src = ((s.src.toNat : Nat) : Int))) t; unfold maxLen; rw [List.length_singleton]; omega) (by have := List.length_filter_le (fun u : Stp => decide (u.src = ((s.src.toNat : Nat) : Int))) t; rw [List.length_singleton]; show _ * 40 ≤ _; omega) ?_
    intro v42 w43 S44 hk45 hv46
    obtain ⟨b47, c48, rfl⟩ := hv46 (by simp)
    have S49 := S38.back 2 rfl S44.close
    refine ⟨hk45.mono fun _ _ hb => ⟨_, List.mem_of_getElem? (nest_get hh (byl_get (by omega))), hb⟩, ?_⟩
    refine e_done (by kernel_rfl) ?_
    refine l_index EH rfl (vec_rd (S49.at 0 rfl)) rfl rfl Try.runUnderlying132 Try.sizeOf135 (by omega) hh ?_
    intro b50 o51 hat52 row53
    refine l_storev1 (a' := (some ⟨b47, 0, none⟩, (t.filter fun u => decide (u.src = ((s.src.toNat : Nat) : Int))).length + [s].length, c48)) (f := 0) S49 0 rfl rfl hat52 rfl rfl rfl Try.sizeOf135 hh (by decide) rfl ?_
    intro w54 S55 hk56
    refine l_nil ?_
    refine r_inBlock ?_
    refine r_roundEnd S55 4 rfl ?_
    intro w57 S58
    exact ⟨_, rfl, ⟨hs.set s.src.toNat (some ⟨b47, 0, none⟩, (t.filter fun u => decide (u.src = ((s.src.toNat : Nat) : Int))).length + [s].length, c48), by rw [List.length_set]; exact hlen, rfl⟩, by rw [← byl_snoc (by omega), ← nest_set]; exact (S58.take 5).close⟩
  rintro _ w59 ⟨_, ⟨hs, hlen, rfl⟩, hback60⟩
  have S61 := Own.unpack (A := []) (L := [_, _, _, _, _]) hback60
  refine r_endRange S61 4 rfl rfl ?_
  intro w62 S63 hk64
  refine r_inBlock ?_
  refine r_seq ?_
  refine r_region ?_
  refine l_x rfl (x_load rfl (ld_blk (S63.blk 1 rfl) Try.isAgg132 rfl)) ?_
  refine l_x rfl (x_as rfl) ?_
  refine l_nil ?_
  refine r_retL rfl ?_
  refine leave_mark S63 3 rfl ?_
  intro w65 S66 hk67
  refine leave_done (rs := [.tmp 2]) [_] Try.func130 rfl ⟨rfl, trivial⟩ ?_
  exact ⟨hs, hlen, S66.pick [0, 2] (by decide) rfl⟩

end Go.Proofs

/-
  Contracts of functions of the program: each by symbolic execution of its text.
-/
namespace Go.Proofs
open Go Go.Vk Go.Vk.Flow

theorem c_Mul1 (c : Int) (w : World) (h : 0 ≤ c ∧ c < 9223372036854775808) : Cl Try.prog 133 #[.int .u64 1, .int .u64 c] w fun v w' => v = .tuple #[.int .u64 0, .int .u64 c] ∧ Le w w' := by
  have h1 := Try.bits_Mul 1 c.toNat (by omega) (by omega) w
  have e : ((c.toNat : Nat) : Int) = c := by omega
  have e1 : 1 * c.toNat / 18446744073709551616 = 0 := by omega
  have e2 : 1 * c.toNat % 18446744073709551616 = c.toNat := by omega
  rw [e1, e2, e] at h1
  exact h1.mono fun e w' ⟨he, hw⟩ => ⟨_, he, rfl, by subst hw; exact Le.refl _⟩

/-- slices.Repeat[[]int,int]. -/
theorem c_Repeat (vx : Value) (z count : Int) (hc : 0 ≤ count ∧ count ≤ 100000) (w : World) (Hx : Rd EI w vx [z]) :
    Cl Try.prog 116 #[vx, .int .i64 count] w fun v w' => New w w' (vec EI v (List.replicate count.toNat z)) ∧ Le w w' := by
  refine fn_of_run (args := [_, _]) 48 Try.func116 rfl rfl rfl fun cs => ?_
  have S := Own.start (X := nob) w
  refine r_seq ?_
  refine r_region ?_
  refine l_x rfl (x_as rfl) ?_
  refine l_nil ?_
  refine r_seq ?_
  refine r_seq ?_
  refine r_region ?_
  refine l_x rfl (x_mv rfl) ?_
  refine l_x rfl (x_lss rfl rfl) ?_
  refine l_nil ?_
  refine r_ifd rfl (fun hc10 => ?_) (fun hc10 => ?_)
  · exact absurd hc10 (by omega)
  · skip
    refine r_skip ?_
    refine r_seq ?_
    refine r_region ?_
    refine l_x rfl (x_mv rfl) ?_
    refine l_x rfl (x_len (Hx.le S.le) rfl Try.runUnderlying25) ?_
    refine l_x rfl (x_convert rfl Try.runUnderlying3 Try.runUnderlying56 (u64_in (by simp))) ?_
    refine l_x rfl (x_mv rfl) ?_
    refine l_x rfl (x_convert rfl Try.runUnderlying3 Try.runUnderlying56 (u64_in (by omega))) ?_
    refine l_call [] [] [_, _] rfl rfl Try.call133 rfl (c_Mul1 count _ ⟨by omega, by omega⟩) ?_
    rintro _ w1 ⟨rfl, hl3⟩
    have S2 := S.step hl3
    refine l_x rfl (x_mv rfl) ?_
    refine l_x rfl (x_extract rfl rfl) ?_
    refine l_x rfl (x_extract rfl rfl) ?_
    refine l_x rfl (x_as rfl) ?_
    refine l_x rfl (x_as rfl) ?_
    refine l_nil ?_
    refine r_seq ?_
    refine r_seq ?_
    refine r_region ?_
    refine l_x rfl (x_mv rfl) ?_
    refine l_x rfl (x_gtr rfl rfl) ?_
    refine l_x rfl (x_mv rfl) ?_
    refine l_splitd (d := 23) rfl (fun hg23 => ?_) (fun hg23 => ?_)
    · exact absurd hg23 (by omega)
    · skip
      refine l_x rfl (x_mv rfl) ?_
      refine l_x rfl (x_gtr rfl rfl) ?_
      refine l_x rfl (x_pick_f rfl rfl) ?_
      refine l_nil ?_
      refine r_ifd rfl (fun hc26 => ?_) (fun hc26 => ?_)
      · exact absurd hc26 (by omega)
      · skip
        refine r_skip ?_
        refine r_seq ?_
        refine r_region ?_
        refine l_x rfl (x_mv rfl) ?_
        refine l_x rfl (x_convert rfl Try.runUnderlying56 Try.runUnderlying3 (i64_in (by omega))) ?_
        refine l_make EI 0 S2 rfl Try.runUnderlying25 Try.sizeOf3 Try.typeInfo3 Try.zeroValue3 rfl rfl (congrArg (Value.int .i64) (Int.toNat_of_nonneg (by omega)).symm) (congrArg (Value.int .i64) (Int.toNat_of_nonneg (by omega)).symm) (Nat.le_refl _) (by unfold maxLen; omega) (by show _ * 8 ≤ _; omega) ?_
        intro v7 w4 hv8 S5 hl6
        refine l_x rfl (x_as rfl) ?_
        refine l_nil ?_
        refine r_seq ?_
        refine r_region ?_
        refine l_x rfl (x_mv rfl) ?_
        refine l_x rfl (x_mv rfl) ?_
        refine l_copy S5 0 rfl rfl (tail_self (S5.at 0 rfl)) rfl rfl (Hx.le S5.le) Try.underlying25 size3 rfl ?_
        intro w9 S10 hk11
        refine l_x rfl (x_as rfl) ?_
        refine l_nil ?_
        refine r_seq ?_
        refine r_block ?_
        refine r_loop (G := Nat) (fun k => count.toNat - k) (fun k => [(7, v7), (8, .int .i64 k)]) (fun k w' => (k ≤ count.toNat) ∧ (0 < count.toNat → 0 < k) ∧ Own nob w w' [vec EI v7 (rp z count.toNat k)]) (min 1 count.toNat) ⟨rfl, (congrArg (fun q : Nat => Value.int .i64 (q : Int)) (by rw [List.length_replicate]; simp : min [z].length ((List.replicate count.toNat (0 : Int)).length - 0) = min 1 count.toNat)), trivial⟩ ⟨by omega, by omega, (by have hS := S10; rw [rp_start] at hS; exact hS)⟩ ?_
        rintro k ρ w1 ⟨hk, hp, S1⟩ IH
        refine r_seq ?_
        refine r_seq ?_
        refine r_region ?_
        refine l_x rfl (x_mv rfl) ?_
        refine l_x rfl (x_mv rfl) ?_
        refine l_x rfl (x_len (vec_rd (S1.at 0 rfl)) rfl Try.runUnderlying25) ?_
        refine l_x rfl (x_lss rfl rfl) ?_
        refine l_nil ?_
        refine r_ifd rfl (fun hc37 => ?_) (fun hc37 => ?_)
        · skip
          rw [rp_len hk] at hc37
          refine r_skip ?_
          refine r_block ?_
          have hml : min ((rp z count.toNat k).take k).length ((rp z count.toNat k).length - k) ≤ 100000 := by rw [rp_len hk]; omega
          refine r_drawE 8 (Rsc.fp (vec EI v7 (rp z count.toNat k))) Try.mixed (by kernel_rfl) ?_
          intro w12 hl13
          have S14 := S1.step hl13
          refine e_exact 0 _ (by kernel_rfl) rfl rfl (by kernel_rfl) rfl (ex_x rfl (fun w1 h1 => x_mv rfl)) ?_
          refine e_exact 1 _ (by kernel_rfl) rfl rfl (by kernel_rfl) rfl (ex_x rfl (fun w1 h1 => x_mv rfl)) ?_
          refine e_exact 2 _ (by kernel_rfl) rfl rfl (by kernel_rfl) rfl (ex_x rfl (fun w1 h1 => x_mv rfl)) ?_
          refine e_tail 3 (by kernel_rfl) rfl rfl (by kernel_rfl) rfl rfl (S14.at 0 rfl) rfl rfl Try.runUnderlying25 Try.sizeOf3 (by rw [rp_len hk]; omega) ?_
          intro v15 ht16
          refine e_exact 4 _ (by kernel_rfl) rfl rfl (by kernel_rfl) rfl (ex_x rfl (fun w1 h1 => x_mv rfl)) ?_
          refine e_exact 5 _ (by kernel_rfl) rfl rfl (by kernel_rfl) rfl (ex_x rfl (fun w1 h1 => x_mv rfl)) ?_
          refine e_head 6 (by kernel_rfl) rfl rfl (by kernel_rfl) rfl rfl (vec_rd (S14.at 0 rfl)) rfl rfl Try.runUnderlying25 Try.sizeOf3 (by rw [rp_len hk]; omega) ?_
          intro v17 ht18
          refine e_next [7] (by kernel_rfl) (by kernel_rfl) ⟨⟨_, _, rfl, rfl, ?_⟩, trivial⟩
          refine s_copy S14 0 rfl rfl ht16 rfl rfl ht18 Try.underlying25 size3 rfl ?_
          intro w19 S20 hk21
          refine ⟨hk21, ?_⟩
          refine e_done (by kernel_rfl) ?_
          refine l_x rfl (x_add rfl rfl (by rw [Int.toNat_natCast, rp_take, List.length_replicate, rp_len hk]; omega)) ?_
          refine l_x rfl (x_as rfl) ?_
          refine l_nil ?_
          refine r_inBlock ?_
          exact IH (k + min ((rp z count.toNat k).take k).length ((rp z count.toNat k).length - k)) _ _ (by rw [rp_len hk, rp_take, List.length_replicate]; omega) ⟨rfl, rfl, trivial⟩ ⟨by rw [rp_len hk]; omega, by omega, (by rw [← rp_copy hk]; exact S20)⟩
        · skip
          rw [rp_len hk] at hc37
          have hkc : k = count.toNat := by omega
          subst hkc
          refine r_exit rfl ?_
          refine r_seq ?_
          refine r_region ?_
          refine l_x rfl (x_mv rfl) ?_
          refine l_x rfl (x_as rfl) ?_
          refine l_nil ?_
          refine r_ret (rs := [.tmp 4]) [_] Try.func116 rfl ⟨rfl, trivial⟩ ?_
          exact ⟨by have hS := S1; rw [rp_full] at hS; exact hS.new 0 rfl, S1.le⟩

end Go.Proofs

/-
  Contracts of functions of the program: each by symbolic execution of its text.
-/
namespace Go.Proofs
open Go Go.Vk Go.Vk.Flow

set_option maxHeartbeats 1000000 in
/-- (*couchant/flow.carried).nearest. -/
theorem c_nearest (N : Int) (va : Value) (arcs : List Arc) (vx : Value) (x : List Int) (vw : Value) (wl : List Int) (m p : Nat → Int) (hV : Valid N arcs) (hx0 : Amts arcs x) (hw0 : Wts arcs wl) (hp : ∀ v, -10000000 ≤ p v ∧ p v ≤ 10000000) (bc : Nat) (w : World) (hq : CarR w bc N va arcs vx x vw wl m p) (hc : ∀ s, s ∈ stps p 0 arcs x wl → 0 ≤ s.cost ∧ s.cost ≤ 2000000) :
    Cl Try.prog 135 #[.pointer (some ⟨bc, 0, none⟩)] w fun v w' => ∃ vc vl, v = .tuple #[vc, vl] ∧ ∃ cost last rk, Own nob w w' [vec EI vc cost, vec ES vl last] ∧ Nearest N.toNat (stps p 0 arcs x wl) m cost last rk := by
  have hNx := hV.max
  have hN1 := hV.pos
  have hLx := hV.len
  have hfar : far = 1152921504606846976 := rfl
  refine fn_of_run (args := [_]) 136 Try.func135 rfl rfl rfl fun cs => ?_
  have S := Own.start (X := nob) w
  refine r_seq ?_
  refine r_region ?_
  refine l_x rfl (x_as rfl) ?_
  refine l_x rfl (x_as rfl) ?_
  refine l_nil ?_
  refine r_seq ?_
  refine r_region ?_
  refine l_x rfl (x_mv rfl) ?_
  refine l_call [] [] [_] rfl rfl Try.call130 rfl (c_by N va arcs vx x vw wl m p hV hx0 hw0 hp bc _ (hq.le S.le)) ?_
  rintro v1 w2 ⟨hs, hlen, h6⟩
  have S3 := S.join h6
  refine l_x rfl (x_as rfl) ?_
  refine l_nil ?_
  refine r_seq ?_
  refine r_drawE 21 nob Try.mixed (by kernel_rfl) ?_
  intro w7 hl8
  have S9 := S3.step hl8
  refine e_exact 1 _ (by kernel_rfl) rfl rfl (by kernel_rfl) rfl (ex_x rfl (fun w1 h1 => x_mv rfl)) ?_
  refine e_exact 2 _ (by kernel_rfl) rfl rfl (by kernel_rfl) rfl (ex_x rfl (fun w1 h1 => x_nilCheck rfl)) ?_
  refine e_exact 3 _ (by kernel_rfl) rfl rfl (by kernel_rfl) rfl (ex_x rfl (fun w1 h1 => x_fieldAddr rfl Try.runUnderlying91 rfl Try.sizeOf24 (by decide))) ?_
  refine e_exact 4 _ (by kernel_rfl) rfl rfl (by kernel_rfl) rfl (ex_x rfl (fun w1 h1 => x_fieldAddr rfl Try.runUnderlying24 rfl Try.sizeOf3 (by decide))) ?_
  refine e_exact 5 _ (by kernel_rfl) rfl rfl (by kernel_rfl) rfl (ex_x rfl (fun w1 h1 => x_load rfl (ld_blk (hq.le (S9.step h1).le).blk Try.isAgg3 rfl))) ?_
  refine e_exact 7 _ (by kernel_rfl) rfl rfl (by kernel_rfl) rfl (ex_x rfl (fun w1 h1 => x_mv rfl)) ?_
  refine e_exact 8 _ (by kernel_rfl) rfl rfl (by kernel_rfl) rfl (ex_x rfl (fun w1 h1 => x_nilCheck rfl)) ?_
  refine e_exact 9 _ (by kernel_rfl) rfl rfl (by kernel_rfl) rfl (ex_x rfl (fun w1 h1 => x_fieldAddr rfl Try.runUnderlying91 rfl Try.sizeOf24 (by decide))) ?_
  refine e_exact 10 _ (by kernel_rfl) rfl rfl (by kernel_rfl) rfl (ex_x rfl (fun w1 h1 => x_fieldAddr rfl Try.runUnderlying24 rfl Try.sizeOf3 (by decide))) ?_
  refine e_exact 11 _ (by kernel_rfl) rfl rfl (by kernel_rfl) rfl (ex_x rfl (fun w1 h1 => x_load rfl (ld_blk (hq.le (S9.step h1).le).blk Try.isAgg3 rfl))) ?_
  refine e_exact 13 _ (by kernel_rfl) rfl rfl (by kernel_rfl) rfl (ex_x rfl (fun w1 h1 => x_mv rfl)) ?_
  refine e_exact 14 _ (by kernel_rfl) rfl rfl (by kernel_rfl) rfl (ex_x rfl (fun w1 h1 => x_nilCheck rfl)) ?_
  refine e_exact 15 _ (by kernel_rfl) rfl rfl (by kernel_rfl) rfl (ex_x rfl (fun w1 h1 => x_fieldAddr rfl Try.runUnderlying91 rfl Try.sizeOf24 (by decide))) ?_
  refine e_exact 16 _ (by kernel_rfl) rfl rfl (by kernel_rfl) rfl (ex_x rfl (fun w1 h1 => x_fieldAddr rfl Try.runUnderlying24 rfl Try.sizeOf3 (by decide))) ?_
  refine e_exact 17 _ (by kernel_rfl) rfl rfl (by kernel_rfl) rfl (ex_x rfl (fun w1 h1 => x_load rfl (ld_blk (hq.le (S9.step h1).le).blk Try.isAgg3 rfl))) ?_
  refine e_cut (G := Value × Value × Value) (fun g => [(0, .pointer (some ⟨bc, 0, none⟩)), (4, v1), (5, g.1), (6, g.2.1), (34, g.2.2)]) (fun g w' => Own nob w w' [vec EH v1 hs, pack (nest ES hs (byl N (stps p 0 arcs x wl))), vec EI g.1 (List.replicate N.toNat 1152921504606846976), vec ES g.2.1 (List.replicate N.toNat ⟨0, false, 0, 0, 0⟩), vec EB g.2.2 (List.replicate N.toNat false)]) ?_ (fun HK => ?_)
  · rintro ⟨vc, vl, vd⟩ ρ w1 S1
    refine l_x rfl (x_as rfl) ?_
    refine l_nil ?_
    refine r_seq ?_
    refine r_seq ?_
    refine r_region ?_
    refine l_x rfl (x_mv rfl) ?_
    refine l_x rfl (x_nilCheck rfl) ?_
    refine l_x rfl (x_fieldAddr rfl Try.runUnderlying91 rfl Try.sizeOf24 (by decide)) ?_
    refine l_x rfl (x_fieldAddr rfl Try.runUnderlying24 rfl Try.sizeOf3 (by decide)) ?_
    refine l_x rfl (x_load rfl (ld_blk (hq.le S1.le).blk Try.isAgg3 rfl)) ?_
    refine l_x rfl (x_mv rfl) ?_
    refine l_nil ?_
    refine r_block ?_
    refine r_loop (G := Nat) (fun i => N.toNat - i) (fun i => [(0, .pointer (some ⟨bc, 0, none⟩)), (4, v1), (5, vc), (6, vl), (7, vd), (40, .int .i64 i), (39, .int .i64 N)]) (fun i w' => (i ≤ N.toNat) ∧ Own nob w w' [vec EH v1 hs, pack (nest ES hs (byl N (stps p 0 arcs x wl))), vec EI vc (cost0 N.toNat m i), vec ES vl (last0 N.toNat m i), vec EB vd (List.replicate N.toNat false)]) 0 ⟨rfl, rfl, rfl, rfl, rfl, rfl, rfl, trivial⟩ ⟨Nat.zero_le _, (by rw [cost0_zero, last0_zero]; exact S1)⟩ ?_
    rintro i ρ w1a ⟨hi, S1a⟩ IHa
    refine r_seq ?_
    refine r_region ?_
    refine l_x rfl (x_lss rfl rfl) ?_
    refine l_nil ?_
    refine r_seq ?_
    refine r_ifd rfl (fun hc41 => ?_) (fun hc41 => ?_)
    · skip
      have hil : i < N.toNat := by omega
      refine r_skip ?_
      refine r_seq ?_
      refine r_block ?_
      refine r_seq ?_
      refine r_region ?_
      refine l_x rfl (x_mv rfl) ?_
      refine l_x rfl (x_as rfl) ?_
      refine l_nil ?_
      refine r_seq ?_
      refine r_region ?_
      refine l_x rfl (x_mv rfl) ?_
      refine l_x rfl (x_mv rfl) ?_
      refine l_x rfl (x_nilCheck rfl) ?_
      refine l_x rfl (x_fieldAddr rfl Try.runUnderlying91 rfl Try.sizeOf89 (by decide)) ?_
      refine l_x rfl (x_indexAddr_array rfl rfl Try.runUnderlying89 Try.sizeOf3 (by omega)) ?_
      refine l_x rfl (x_load rfl (ld_blk (hq.le S1a.le).blk Try.isAgg3 (carm_get rfl (by omega)))) ?_
      refine l_x rfl (x_gtr rfl rfl) ?_
      refine l_nil ?_
      refine r_ifd rfl (fun hc49 => ?_) (fun hc49 => ?_)
      · skip
        refine r_seq ?_
        refine r_region ?_
        refine l_x rfl (x_mv rfl) ?_
        refine l_x rfl (x_mv rfl) ?_
        refine l_index EI rfl (vec_rd (S1a.at 2 rfl)) rfl rfl Try.runUnderlying25 Try.sizeOf3 (by omega) (cost0_get (by omega) _) ?_
        intro b10 o11 hat12 row13
        refine l_storevi (f := 0) S1a 2 rfl rfl hat12 rfl rfl Try.sizeOf3 (cost0_get (by omega) _) (by decide) rfl ?_
        intro w14 S15 hk16
        refine l_nil ?_
        refine r_region ?_
        refine l_x rfl (x_mv rfl) ?_
        refine l_x rfl (x_mv rfl) ?_
        refine l_index ES rfl (vec_rd (S15.at 3 rfl)) rfl rfl Try.runUnderlying135 Try.sizeOf126 (by omega) (last0_fresh hil) ?_
        intro b17 o18 hat19 row20
        refine l_x rfl (x_fieldAddr rfl Try.runUnderlying126 rfl Try.sizeOf3 (by decide)) ?_
        refine l_storevi (a' := ⟨-1, false, 0, 0, 0⟩) (f := 0) S15 3 rfl rfl hat19 rfl rfl Try.sizeOf3 (last0_fresh hil) (by decide) rfl ?_
        intro w21 S22 hk23
        refine l_nil ?_
        refine r_inBlock ?_
        refine r_region ?_
        refine l_x rfl (x_add rfl rfl (by omega)) ?_
        refine l_x rfl (x_mv rfl) ?_
        refine l_nil ?_
        exact IHa (i + 1) _ _ (by omega) ⟨rfl, rfl, rfl, rfl, rfl, rfl, rfl, trivial⟩ ⟨by omega, (by rw [← cost0_set (i := i) (by omega) hc49, ← last0_set (i := i) (by omega) hc49]; exact S22.take 5)⟩
      · skip
        refine r_skip ?_
        refine r_inBlock ?_
        refine r_region ?_
        refine l_x rfl (x_add rfl rfl (by omega)) ?_
        refine l_x rfl (x_mv rfl) ?_
        refine l_nil ?_
        exact IHa (i + 1) _ _ (by omega) ⟨rfl, rfl, rfl, rfl, rfl, rfl, rfl, trivial⟩ ⟨by omega, (by rw [← cost0_same (i := i) hc49, ← last0_same (i := i) hc49]; exact S1a.take 5)⟩
    · skip
      have hie : i = N.toNat := by omega
      subst hie
      refine r_exit rfl ?_
      refine r_block ?_
      refine r_loop (G := List Int × List Stp × List Bool × Nat × (Nat → Nat)) (fun ⟨cost, last, dn, k, rk⟩ => N.toNat - k) (fun ⟨cost, last, dn, k, rk⟩ => [(0, .pointer (some ⟨bc, 0, none⟩)), (4, v1), (5, vc), (6, vl), (7, vd)]) (fun ⟨cost, last, dn, k, rk⟩ w' => (Dj N.toNat (stps p 0 arcs x wl) m cost last dn k rk fun _ _ => True) ∧ Own nob w w' [vec EH v1 hs, pack (nest ES hs (byl N (stps p 0 arcs x wl))), vec EI vc cost, vec ES vl last, vec EB vd dn]) (cost0 N.toNat m N.toNat, last0 N.toNat m N.toNat, List.replicate N.toNat false, 0, fun _ => 0) ⟨rfl, rfl, rfl, rfl, rfl, trivial⟩ ⟨Dj.start .., (S1a.take 5)⟩ ?_
      rintro ⟨cost, last, dn, k, rk⟩ ρ w1b ⟨hJ, S1b⟩ IHb
      refine r_block ?_
      refine r_seq ?_
      refine r_region ?_
      refine l_x rfl (x_as rfl) ?_
      refine l_nil ?_
      refine r_seq ?_
      refine r_seq ?_
      refine r_region ?_
      refine l_x rfl (x_mv rfl) ?_
      refine l_x rfl (x_nilCheck rfl) ?_
      refine l_x rfl (x_fieldAddr rfl Try.runUnderlying91 rfl Try.sizeOf24 (by decide)) ?_
      refine l_x rfl (x_fieldAddr rfl Try.runUnderlying24 rfl Try.sizeOf3 (by decide)) ?_
      refine l_x rfl (x_load rfl (ld_blk (hq.le S1b.le).blk Try.isAgg3 rfl)) ?_
      refine l_x rfl (x_mv rfl) ?_
      refine l_nil ?_
      refine r_block ?_
      refine r_loop (G := Nat × Int) (fun ⟨i, v⟩ => N.toNat - i) (fun ⟨i, v⟩ => [(0, .pointer (some ⟨bc, 0, none⟩)), (4, v1), (5, vc), (6, vl), (7, vd), (9, .int .i64 v), (63, .int .i64 i), (62, .int .i64 N)]) (fun ⟨i, v⟩ w' => (i ≤ N.toNat) ∧ (Mn cost dn i v) ∧ Own nob w w' [vec EH v1 hs, pack (nest ES hs (byl N (stps p 0 arcs x wl))), vec EI vc cost, vec ES vl last, vec EB vd dn]) (0, -1) ⟨rfl, rfl, rfl, rfl, rfl, rfl, rfl, rfl, trivial⟩ ⟨Nat.zero_le _, Mn.zero, (S1b.take 5)⟩ ?_
      rintro ⟨i, v⟩ ρ w1c ⟨hi, hM, S1c⟩ IHc
      refine r_seq ?_
      refine r_region ?_
      refine l_x rfl (x_lss rfl rfl) ?_
      refine l_nil ?_
      refine r_seq ?_
      refine r_ifd rfl (fun hc64 => ?_) (fun hc64 => ?_)
      · skip
        have hil : i < N.toNat := by omega
        obtain ⟨d, hd⟩ : ∃ d, dn[i]? = some d := ⟨_, List.getElem?_eq_getElem (by rw [hJ.ld]; omega)⟩
        refine r_skip ?_
        refine r_seq ?_
        refine r_block ?_
        refine r_seq ?_
        refine r_region ?_
        refine l_x rfl (x_mv rfl) ?_
        refine l_x rfl (x_as rfl) ?_
        refine l_nil ?_
        refine r_seq ?_
        refine r_drawR 27 Try.mixed (by kernel_rfl) ?_
        refine w_x rfl (fun w1 h1 => x_mv rfl) ?_
        refine w_x rfl (fun w1 h1 => x_mv rfl) ?_
        refine w_index EB rfl (vec_rd (S1c.at 4 rfl)) rfl rfl Try.runUnderlying101 Try.sizeOf4 (by omega) hd ?_
        intro b24 o25 hat26 row27
        refine w_x rfl (fun w1 h1 => x_load rfl (ld_cell Try.isAgg4 ((row27.le h1) 0 _ rfl))) ?_
        refine w_x rfl (fun w1 h1 => x_not rfl) ?_
        refine w_x rfl (fun w1 h1 => x_mv rfl) ?_
        refine w_split (d := 71) rfl (fun hg71 => ?_) (fun hg71 => ?_)
        · skip
          have hd0 : dn[i]? = some false := by rw [hd]; simpa using hg71
          refine w_x rfl (fun w1 h1 => x_mv rfl) ?_
          refine w_x rfl (fun w1 h1 => x_mv rfl) ?_
          refine w_index EI rfl (vec_rd (S1c.at 2 rfl)) rfl rfl Try.runUnderlying25 Try.sizeOf3 (by omega) (nth_get (by have := hJ.lc; omega)) ?_
          intro b28 o29 hat30 row31
          refine w_x rfl (fun w1 h1 => x_load rfl (ld_cell Try.isAgg3 ((row31.le h1) 0 _ rfl))) ?_
          refine w_x rfl (fun w1 h1 => x_lss rfl rfl) ?_
          refine w_x rfl (fun w1 h1 => x_pick_t rfl rfl) ?_
          refine w_x rfl (fun w1 h1 => x_mv rfl) ?_
          refine w_splitd (d := 78) rfl (fun hg78 => ?_) (fun hg78 => ?_)
          · skip
            refine w_x rfl (fun w1 h1 => x_mv rfl) ?_
            refine w_x rfl (fun w1 h1 => x_lss rfl rfl) ?_
            refine w_x rfl (fun w1 h1 => x_mv rfl) ?_
            refine w_splitd (d := 81) rfl (fun hg81 => ?_) (fun hg81 => ?_)
            · skip
              refine w_pass rfl ?_
              refine w_pass rfl ?_
              refine w_pass rfl ?_
              refine w_pass rfl ?_
              refine w_pass rfl ?_
              refine w_pass rfl ?_
              refine w_pass rfl ?_
              refine w_pass rfl ?_
              refine w_pass rfl ?_
              refine w_x rfl (fun w1 h1 => x_pick_t rfl rfl) ?_
              refine w_x rfl (fun w1 h1 => x_pick_t rfl rfl) ?_
              refine w_nil ?_
              intro w32 hl33
              have S34 := S1c.step hl33
              refine l_nil ?_
              refine r_true rfl ?_
              refine r_region ?_
              refine l_x rfl (x_mv rfl) ?_
              refine l_x rfl (x_as rfl) ?_
              refine l_nil ?_
              refine r_inBlock ?_
              refine r_region ?_
              refine l_x rfl (x_add rfl rfl (by omega)) ?_
              refine l_x rfl (x_mv rfl) ?_
              refine l_nil ?_
              exact IHc (i + 1, (i : Int)) _ _ (by dsimp only; omega) ⟨rfl, rfl, rfl, rfl, rfl, rfl, rfl, rfl, trivial⟩ ⟨by omega, hM.take1 hg81 hd0 hg78, (S34.take 5)⟩
            · skip
              refine w_x rfl (fun w1 h1 => x_mv rfl) ?_
              refine w_x rfl (fun w1 h1 => x_mv rfl) ?_
              refine w_index EI rfl (vec_rd (S1c.at 2 rfl)) rfl rfl Try.runUnderlying25 Try.sizeOf3 (by omega) (nth_get (by have := hJ.lc; omega)) ?_
              intro b35 o36 hat37 row38
              refine w_x rfl (fun w1 h1 => x_load rfl (ld_cell Try.isAgg3 ((row38.le h1) 0 _ rfl))) ?_
              refine w_x rfl (fun w1 h1 => x_mv rfl) ?_
              refine w_x rfl (fun w1 h1 => x_mv rfl) ?_
              refine w_index EI rfl (vec_rd (S1c.at 2 rfl)) rfl rfl Try.runUnderlying25 Try.sizeOf3 (by omega) (nth_get (by have := hJ.lc; have := hM.lt; omega)) ?_
              intro b39 o40 hat41 row42
              refine w_x rfl (fun w1 h1 => x_load rfl (ld_cell Try.isAgg3 ((row42.le h1) 0 _ rfl))) ?_
              refine w_x rfl (fun w1 h1 => x_lss rfl rfl) ?_
              refine w_x rfl (fun w1 h1 => x_pick_f rfl rfl) ?_
              refine w_x rfl (fun w1 h1 => x_pick_t rfl rfl) ?_
              refine w_nil ?_
              intro w43 hl44
              have S45 := S1c.step hl44
              refine l_nil ?_
              refine r_ifd rfl (fun hc92 => ?_) (fun hc92 => ?_)
              · skip
                refine r_region ?_
                refine l_x rfl (x_mv rfl) ?_
                refine l_x rfl (x_as rfl) ?_
                refine l_nil ?_
                refine r_inBlock ?_
                refine r_region ?_
                refine l_x rfl (x_add rfl rfl (by omega)) ?_
                refine l_x rfl (x_mv rfl) ?_
                refine l_nil ?_
                exact IHc (i + 1, (i : Int)) _ _ (by dsimp only; omega) ⟨rfl, rfl, rfl, rfl, rfl, rfl, rfl, rfl, trivial⟩ ⟨by omega, hM.take2 hg81 hd0 hg78 hc92, (S45.take 5)⟩
              · skip
                refine r_skip ?_
                refine r_inBlock ?_
                refine r_region ?_
                refine l_x rfl (x_add rfl rfl (by omega)) ?_
                refine l_x rfl (x_mv rfl) ?_
                refine l_nil ?_
                exact IHc (i + 1, v) _ _ (by dsimp only; omega) ⟨rfl, rfl, rfl, rfl, rfl, rfl, rfl, rfl, trivial⟩ ⟨by omega, hM.keep hg81 hc92, (S45.take 5)⟩
          · skip
            refine w_pass rfl ?_
            refine w_pass rfl ?_
            refine w_pass rfl ?_
            refine w_pass rfl ?_
            refine w_pass rfl ?_
            refine w_pass rfl ?_
            refine w_pass rfl ?_
            refine w_pass rfl ?_
            refine w_pass rfl ?_
            refine w_pass rfl ?_
            refine w_pass rfl ?_
            refine w_pass rfl ?_
            refine w_pass rfl ?_
            refine w_x rfl (fun w1 h1 => x_pick_f rfl rfl) ?_
            refine w_nil ?_
            intro w46 hl47
            have S48 := S1c.step hl47
            refine l_nil ?_
            refine r_false rfl ?_
            refine r_skip ?_
            refine r_inBlock ?_
            refine r_region ?_
            refine l_x rfl (x_add rfl rfl (by omega)) ?_
            refine l_x rfl (x_mv rfl) ?_
            refine l_nil ?_
            exact IHc (i + 1, v) _ _ (by dsimp only; omega) ⟨rfl, rfl, rfl, rfl, rfl, rfl, rfl, rfl, trivial⟩ ⟨by omega, hM.skipF hg78, (S48.take 5)⟩
        · skip
          have hd1 : dn[i]? = some true := by rw [hd]; simpa using hg71
          refine w_pass rfl ?_
          refine w_pass rfl ?_
          refine w_pass rfl ?_
          refine w_pass rfl ?_
          refine w_pass rfl ?_
          refine w_x rfl (fun w1 h1 => x_pick_f rfl rfl) ?_
          refine w_x rfl (fun w1 h1 => x_mv rfl) ?_
          refine w_pass rfl ?_
          refine w_pass rfl ?_
          refine w_pass rfl ?_
          refine w_pass rfl ?_
          refine w_pass rfl ?_
          refine w_pass rfl ?_
          refine w_pass rfl ?_
          refine w_pass rfl ?_
          refine w_pass rfl ?_
          refine w_pass rfl ?_
          refine w_pass rfl ?_
          refine w_pass rfl ?_
          refine w_pass rfl ?_
          refine w_x rfl (fun w1 h1 => x_pick_f rfl rfl) ?_
          refine w_nil ?_
          intro w49 hl50
          have S51 := S1c.step hl50
          refine l_nil ?_
          refine r_false rfl ?_
          refine r_skip ?_
          refine r_inBlock ?_
          refine r_region ?_
          refine l_x rfl (x_add rfl rfl (by omega)) ?_
          refine l_x rfl (x_mv rfl) ?_
          refine l_nil ?_
          exact IHc (i + 1, v) _ _ (by dsimp only; omega) ⟨rfl, rfl, rfl, rfl, rfl, rfl, rfl, rfl, trivial⟩ ⟨by omega, hM.skipD hd1, (S51.take 5)⟩
      · skip
        have hie : i = N.toNat := by omega
        subst hie
        refine r_exit rfl ?_
        refine r_seq ?_
        refine r_seq ?_
        refine r_region ?_
        refine l_x rfl (x_mv rfl) ?_
        refine l_x rfl (x_lss rfl rfl) ?_
        refine l_nil ?_
        refine r_ifd rfl (fun hc96 => ?_) (fun hc96 => ?_)
        · skip
          refine r_seq ?_
          refine r_region ?_
          refine l_x rfl (x_mv rfl) ?_
          refine l_x rfl (x_mv rfl) ?_
          refine l_x rfl (x_as rfl) ?_
          refine l_x rfl (x_as rfl) ?_
          refine l_nil ?_
          refine r_ret (rs := [.tmp 2, .tmp 3]) [_, _] Try.func135 rfl ⟨rfl, rfl, trivial⟩ ?_
          exact ⟨_, _, rfl, cost, last, rk, S1c.pick [2, 3] (by decide) rfl, hJ.done (by omega) (fun s hs => by have := stps_ok hV hs; omega) (fun u hu hnd => hM.elim (fun h => h.2 u hu hnd) (fun ⟨v0, h, _⟩ => by omega))⟩
        · skip
          obtain ⟨v0, rfl, hv0n, hdv, hvf, hvm⟩ := hM.resolve_left (fun h => by omega)
          obtain ⟨h0, hh⟩ : ∃ h0, hs[v0]? = some h0 := ⟨_, List.getElem?_eq_getElem (by omega)⟩
          have hPk := hJ.pick hv0n hdv hvf hvm
          have hv0 : isD (dn.set v0 true) v0 := (isD_set (List.getElem?_eq_some_iff.1 hdv).1).2 (.inl rfl)
          have hcnt := count_lt hdv
          have hJc := hJ.cnt
          have hJl := hJ.ld
          obtain ⟨L0, hL0⟩ : ∃ L0, L0 = ((stps p 0 arcs x wl).filter fun s => decide (s.src = (v0 : Int))) := ⟨_, rfl⟩
          have hL0n : L0.length ≤ 8000 := by have h1 := List.length_filter_le (fun s : Stp => decide (s.src = (v0 : Int))) (stps p 0 arcs x wl); have h2 := stps_len p 0 arcs x wl; rw [hL0]; omega
          refine r_skip ?_
          refine r_seq ?_
          refine r_region ?_
          refine l_x rfl (x_mv rfl) ?_
          refine l_x rfl (x_mv rfl) ?_
          refine l_index EB rfl (vec_rd (S1c.at 4 rfl)) rfl rfl Try.runUnderlying101 Try.sizeOf4 (by omega) hdv ?_
          intro b52 o53 hat54 row55
          refine l_storevb (f := 0) S1c 4 rfl rfl hat54 rfl rfl Try.sizeOf4 hdv (by decide) rfl ?_
          intro w56 S57 hk58
          refine l_nil ?_
          refine r_seq ?_
          refine r_region ?_
          refine l_x rfl (x_mv rfl) ?_
          refine l_x rfl (x_mv rfl) ?_
          refine l_index EH rfl (vec_rd (S57.at 0 rfl)) rfl rfl Try.runUnderlying132 Try.sizeOf135 (by omega) hh ?_
          intro b59 o60 hat61 row62
          refine l_x rfl (x_load rfl (ld_cell Try.isAgg135 (row62 0 _ rfl))) ?_
          refine l_x rfl (x_len (nest_rd (S57.at 1 rfl) hh (byl_get (by omega))) rfl Try.runUnderlying135) ?_
          refine l_x rfl (x_mv rfl) ?_
          refine l_nil ?_
          refine r_block ?_
          refine r_loop (G := Nat × List Int × List Stp) (fun ⟨i, cost1, last1⟩ => L0.length - i) (fun ⟨i, cost1, last1⟩ => [(0, .pointer (some ⟨bc, 0, none⟩)), (4, v1), (5, vc), (6, vl), (7, vd), (9, .int .i64 v0), (105, hv h0), (107, .int .i64 i), (106, .int .i64 L0.length)]) (fun ⟨i, cost1, last1⟩ w' => (i ≤ L0.length) ∧ (Dj N.toNat (stps p 0 arcs x wl) m cost1 last1 (dn.set v0 true) (k + 1) (fun u => if u = v0 then k else rk u) fun u t => u ≠ v0 ∨ t ∈ L0.take i) ∧ (Tp cost1 (dn.set v0 true) v0) ∧ Own nob w w' [vec EH v1 hs, pack (nest ES hs (byl N (stps p 0 arcs x wl))), vec EI vc cost1, vec ES vl last1, vec EB vd (dn.set v0 true)]) (0, cost, last) ⟨rfl, rfl, rfl, rfl, rfl, rfl, rfl, rfl, (congrArg (fun l : List Stp => Value.int .i64 (l.length : Int)) hL0.symm), trivial⟩ ⟨Nat.zero_le _, hPk.1.more (fun u t _ _ hq => hq.resolve_right (by simp)), hPk.2, (S57.take 5)⟩ ?_
          rintro ⟨i, cost1, last1⟩ ρ w1d ⟨hi, hD, htop, S1d⟩ IHd
          refine r_seq ?_
          refine r_region ?_
          refine l_x rfl (x_lss rfl rfl) ?_
          refine l_nil ?_
          refine r_seq ?_
          refine r_ifd rfl (fun hc108 => ?_) (fun hc108 => ?_)
          · skip
            have hil : i < L0.length := by omega
            obtain ⟨s, hs⟩ : ∃ s, L0[i]? = some s := ⟨_, List.getElem?_eq_getElem (by omega)⟩
            have hsf : s ∈ L0 := List.mem_of_getElem? hs
            have hsm : s ∈ stps p 0 arcs x wl := by rw [hL0] at hsf; exact (List.mem_filter.1 hsf).1
            have hsv : s.src = (v0 : Int) := by rw [hL0] at hsf; simpa using (List.mem_filter.1 hsf).2
            have hsb := stps_ok hV hsm
            have hsc := hc s hsm
            have hn1 := hD.nonneg v0 (by omega)
            have hn3 : nth cost1 ((v0 : Nat) : Int).toNat = nth cost1 v0 := rfl
            have hn2 := (hD.bd v0 (by omega) (hD.ofin v0 hv0)).1
            obtain ⟨tl, hll⟩ : ∃ tl, last1[s.dst.toNat]? = some tl := ⟨_, List.getElem?_eq_getElem (by rw [hD.ll]; omega)⟩
            refine r_skip ?_
            refine r_seq ?_
            refine r_block ?_
            refine r_seq ?_
            refine r_region ?_
            refine l_index ES rfl (by rw [hL0]; exact nest_rd (S1d.at 1 rfl) hh (byl_get (by omega))) rfl rfl Try.runUnderlying135 Try.sizeOf126 (by omega) hs ?_
            intro b63 o64 hat65 row66
            refine l_x rfl (x_load rfl (ld_row Try.isAgg126 Try.sizeOf126 rfl row66)) ?_
            refine l_alloc S1d rfl Try.zeroValue126 rfl ?_
            intro b70 w67 S68 hl69
            refine l_stores S68 5 rfl rfl rfl rfl (ES.one _) Try.sizeOf126 (by first | exact Nat.le_refl _ | simp) (splice_all rfl) ?_
            intro w71 S72 hk73
            refine l_nil ?_
            refine r_seq ?_
            refine r_drawR 8 Try.mixed (by kernel_rfl) ?_
            refine w_x rfl (fun w1 h1 => x_mv rfl) ?_
            refine w_x rfl (fun w1 h1 => x_mv rfl) ?_
            refine w_index EI rfl (vec_rd (S72.at 2 rfl)) rfl rfl Try.runUnderlying25 Try.sizeOf3 (by omega) (nth_get (by have := hD.lc; omega)) ?_
            intro b74 o75 hat76 row77
            refine w_x rfl (fun w1 h1 => x_load rfl (ld_cell Try.isAgg3 ((row77.le h1) 0 _ rfl))) ?_
            refine w_x rfl (fun w1 h1 => x_fieldAddr rfl Try.runUnderlying126 rfl Try.sizeOf3 (by decide)) ?_
            refine w_x rfl (fun w1 h1 => x_load rfl (ld_blk ((S72.step h1).blk 5 rfl) Try.isAgg3 rfl)) ?_
            refine w_x rfl (fun w1 h1 => x_add rfl rfl (by omega)) ?_
            refine w_x rfl (fun w1 h1 => x_as rfl) ?_
            refine w_nil ?_
            intro w78 hl79
            have S80 := S72.step hl79
            refine l_nil ?_
            refine r_seq ?_
            refine r_region ?_
            refine l_x rfl (x_mv rfl) ?_
            refine l_x rfl (x_mv rfl) ?_
            refine l_x rfl (x_fieldAddr rfl Try.runUnderlying126 rfl Try.sizeOf3 (by decide)) ?_
            refine l_x rfl (x_load rfl (ld_blk (S80.blk 5 rfl) Try.isAgg3 rfl)) ?_
            refine l_index EI rfl (vec_rd (S80.at 2 rfl)) rfl rfl Try.runUnderlying25 Try.sizeOf3 (by omega) (nth_get (by have := hD.lc; omega)) ?_
            intro b81 o82 hat83 row84
            refine l_x rfl (x_load rfl (ld_cell Try.isAgg3 (row84 0 _ rfl))) ?_
            refine l_x rfl (x_lss rfl rfl) ?_
            refine l_nil ?_
            refine r_ifd rfl (fun hc124 => ?_) (fun hc124 => ?_)
            · skip
              refine r_drawE 10 (Rsc.fp (vec EI vc cost1)) Try.mixed (by kernel_rfl) ?_
              intro w85 hl86
              have S87 := S80.step hl86
              refine e_exact 0 _ (by kernel_rfl) rfl rfl (by kernel_rfl) rfl (ex_x rfl (fun w1 h1 => x_mv rfl)) ?_
              refine e_exact 1 _ (by kernel_rfl) rfl rfl (by kernel_rfl) rfl (ex_x rfl (fun w1 h1 => x_fieldAddr rfl Try.runUnderlying126 rfl Try.sizeOf3 (by decide))) ?_
              refine e_exact 2 _ (by kernel_rfl) rfl rfl (by kernel_rfl) rfl (ex_x rfl (fun w1 h1 => x_load rfl (ld_blk ((S87.under 2 rfl h1).blk 5 rfl) Try.isAgg3 rfl))) ?_
              refine e_exact 3 _ (by kernel_rfl) rfl rfl (by kernel_rfl) rfl (ex_x rfl (fun w1 h1 => x_mv rfl)) ?_
              refine e_exact 4 _ (by kernel_rfl) rfl rfl (by kernel_rfl) rfl (ex_x rfl (fun w1 h1 => x_fieldAddr rfl Try.runUnderlying126 rfl Try.sizeOf3 (by decide))) ?_
              refine e_exact 5 _ (by kernel_rfl) rfl rfl (by kernel_rfl) rfl (ex_x rfl (fun w1 h1 => x_load rfl (ld_blk ((S87.under 2 rfl h1).blk 5 rfl) Try.isAgg3 rfl))) ?_
              refine e_exact 6 _ (by kernel_rfl) rfl rfl (by kernel_rfl) rfl (ex_x rfl (fun w1 h1 => x_mv rfl)) ?_
              refine e_exact 7 _ (by kernel_rfl) rfl rfl (by kernel_rfl) rfl (ex_x rfl (fun w1 h1 => x_load rfl (ld_blks ((S87.under 2 rfl h1).blk 5 rfl) Try.isAgg126 Try.sizeOf126 rfl rfl))) ?_
              refine e_index EI 8 (by kernel_rfl) rfl rfl (by kernel_rfl) rfl rfl (vec_rd (S87.at 2 rfl)) rfl rfl Try.runUnderlying25 Try.sizeOf3 (by omega) (nth_get (by have := hD.lc; omega)) ?_
              intro b88 o89 hat90
              refine e_next [9] (by kernel_rfl) (by kernel_rfl) ⟨⟨_, _, rfl, rfl, ?_⟩, trivial⟩
              refine s_storevi (f := 0) S87 2 rfl rfl hat90 rfl rfl Try.sizeOf3 (nth_get (by have := hD.lc; omega)) (by decide) rfl ?_
              intro w91 S92 hk93
              refine ⟨hk93, ?_⟩
              refine e_done (by kernel_rfl) ?_
              refine l_index ES rfl (vec_rd (S92.at 3 rfl)) rfl rfl Try.runUnderlying135 Try.sizeOf126 (by omega) hll ?_
              intro b94 o95 hat96 row97
              refine l_storeva (a' := s) S92 3 rfl rfl hat96 rfl rfl Try.sizeOf126 hll rfl ?_
              intro w98 S99 hk100
              refine l_nil ?_
              refine r_inBlock ?_
              refine r_region ?_
              refine l_x rfl (x_add rfl rfl (by omega)) ?_
              refine l_x rfl (x_mv rfl) ?_
              refine l_nil ?_
              exact IHd (i + 1, cost1.set s.dst.toNat (nth cost1 v0 + s.cost), last1.set s.dst.toNat s) _ _ (by dsimp only; omega) ⟨rfl, rfl, rfl, rfl, rfl, rfl, rfl, rfl, rfl, trivial⟩ ⟨by omega, (hD.relax (Q' := fun u t => u ≠ v0 ∨ t ∈ L0.take (i + 1)) hv0 htop hsm hsv ⟨hsb.2.2.1, by omega⟩ (hc s hsm) hsb.2.2.2.2.1 (by simp) (by have := hcnt; omega) (Qstep hs) hc124).1, (hD.relax (Q' := fun u t => u ≠ v0 ∨ t ∈ L0.take (i + 1)) hv0 htop hsm hsv ⟨hsb.2.2.1, by omega⟩ (hc s hsm) hsb.2.2.2.2.1 (by simp) (by have := hcnt; omega) (Qstep hs) hc124).2, (S99.take 5)⟩
            · skip
              refine r_skip ?_
              refine r_inBlock ?_
              refine r_region ?_
              refine l_x rfl (x_add rfl rfl (by omega)) ?_
              refine l_x rfl (x_mv rfl) ?_
              refine l_nil ?_
              exact IHd (i + 1, cost1, last1) _ _ (by dsimp only; omega) ⟨rfl, rfl, rfl, rfl, rfl, rfl, rfl, rfl, rfl, trivial⟩ ⟨by omega, hD.keep (Qstep hs) hc124, htop, (S80.take 5)⟩
          · skip
            have hie : i = L0.length := by omega
            subst hie
            rw [List.take_length] at hD
            have hQe := Qend hL0
            refine r_exit rfl ?_
            refine r_inBlock ?_
            exact IHb (cost1, last1, dn.set v0 true, k + 1, fun u => if u = v0 then k else rk u) _ _ (by have := count_lt hdv; have := hJ.cnt; have := hJ.ld; dsimp only; omega) ⟨rfl, rfl, rfl, rfl, rfl, trivial⟩ ⟨hD.more hQe, (S1d.take 5)⟩
  · skip
    refine e_next [0, 12, 18] (by kernel_rfl) (by kernel_rfl) ⟨⟨_, _, rfl, rfl, ?_⟩, ⟨_, _, rfl, rfl, ?_⟩, ⟨_, _, rfl, rfl, ?_⟩, trivial⟩
    · skip
      refine s_buildSlice EI [_] S9 rfl Try.runUnderlying25 Try.sizeOf3 Try.zeroValue3 rfl ⟨rfl, rfl, trivial⟩ (by decide) ?_
      intro v104 w101 S102 hl103
      refine ⟨.of_le hl103, ?_⟩
      refine e_next [6, 12, 18] (by kernel_rfl) (by kernel_rfl) ⟨⟨_, _, rfl, rfl, ?_⟩, ⟨_, _, rfl, rfl, ?_⟩, ⟨_, _, rfl, rfl, ?_⟩, trivial⟩
      · skip
        refine s_callf [] [] [_, _] rfl rfl Try.call116 rfl ((c_Repeat _ 1152921504606846976 N (by omega) _ (vec_rd (S102.at 2 rfl))).mono ?_)
        rintro v105 w106 ⟨hn108, hl109⟩
        have S107 := S102.add hl109 hn108
        refine ⟨.of_le hl109, ?_⟩
        refine e_exact 19 _ (by kernel_rfl) rfl rfl (by kernel_rfl) rfl (ex_x rfl (fun w1 h1 => x_as rfl)) ?_
        refine e_next [12, 18] (by kernel_rfl) (by kernel_rfl) ⟨⟨_, _, rfl, rfl, ?_⟩, ⟨_, _, rfl, rfl, ?_⟩, trivial⟩
        · skip
          refine s_make ES ⟨0, false, 0, 0, 0⟩ S107 rfl Try.runUnderlying135 Try.sizeOf126 Try.typeInfo126 Try.zeroValue126 rfl rfl (congrArg (Value.int .i64) (Int.toNat_of_nonneg (by omega)).symm) (congrArg (Value.int .i64) (Int.toNat_of_nonneg (by omega)).symm) (Nat.le_refl _) (by unfold maxLen; omega) (by show _ * 40 ≤ _; omega) ?_
          intro v113 w110 hv114 S111 hl112
          refine ⟨.of_le hl112, ?_⟩
          refine e_exact 20 _ (by kernel_rfl) rfl rfl (by kernel_rfl) rfl (ex_x rfl (fun w1 h1 => x_as rfl)) ?_
          refine e_next [18] (by kernel_rfl) (by kernel_rfl) ⟨⟨_, _, rfl, rfl, ?_⟩, trivial⟩
          refine s_make EB false S111 rfl Try.runUnderlying101 Try.sizeOf4 Try.typeInfo4 Try.zeroValue4 rfl rfl (congrArg (Value.int .i64) (Int.toNat_of_nonneg (by omega)).symm) (congrArg (Value.int .i64) (Int.toNat_of_nonneg (by omega)).symm) (Nat.le_refl _) (by unfold maxLen; omega) (by show _ * 1 ≤ _; omega) ?_
          intro v118 w115 hv119 S116 hl117
          refine ⟨.of_le hl117, ?_⟩
          refine e_done (by kernel_rfl) ?_
          exact HK (_, _, _) _ _ ⟨rfl, rfl, rfl, rfl, rfl, trivial⟩ (S116.pick [0, 1, 3, 4, 5] (by decide) rfl)
        · skip
          refine s_make EB false S107 rfl Try.runUnderlying101 Try.sizeOf4 Try.typeInfo4 Try.zeroValue4 rfl rfl (congrArg (Value.int .i64) (Int.toNat_of_nonneg (by omega)).symm) (congrArg (Value.int .i64) (Int.toNat_of_nonneg (by omega)).symm) (Nat.le_refl _) (by unfold maxLen; omega) (by show _ * 1 ≤ _; omega) ?_
          intro v123 w120 hv124 S121 hl122
          refine ⟨.of_le hl122, ?_⟩
          refine e_next [12] (by kernel_rfl) (by kernel_rfl) ⟨⟨_, _, rfl, rfl, ?_⟩, trivial⟩
          refine s_make ES ⟨0, false, 0, 0, 0⟩ S121 rfl Try.runUnderlying135 Try.sizeOf126 Try.typeInfo126 Try.zeroValue126 rfl rfl (congrArg (Value.int .i64) (Int.toNat_of_nonneg (by omega)).symm) (congrArg (Value.int .i64) (Int.toNat_of_nonneg (by omega)).symm) (Nat.le_refl _) (by unfold maxLen; omega) (by show _ * 40 ≤ _; omega) ?_
          intro v128 w125 hv129 S126 hl127
          refine ⟨.of_le hl127, ?_⟩
          refine e_exact 20 _ (by kernel_rfl) rfl rfl (by kernel_rfl) rfl (ex_x rfl (fun w1 h1 => x_as rfl)) ?_
          refine e_done (by kernel_rfl) ?_
          exact HK (_, _, _) _ _ ⟨rfl, rfl, rfl, rfl, rfl, trivial⟩ (S126.pick [0, 1, 3, 5, 4] (by decide) rfl)
      · skip
        refine s_make ES ⟨0, false, 0, 0, 0⟩ S102 rfl Try.runUnderlying135 Try.sizeOf126 Try.typeInfo126 Try.zeroValue126 rfl rfl (congrArg (Value.int .i64) (Int.toNat_of_nonneg (by omega)).symm) (congrArg (Value.int .i64) (Int.toNat_of_nonneg (by omega)).symm) (Nat.le_refl _) (by unfold maxLen; omega) (by show _ * 40 ≤ _; omega) ?_
        intro v133 w130 hv134 S131 hl132
        refine ⟨.of_le hl132, ?_⟩
        refine e_next [6, 18] (by kernel_rfl) (by kernel_rfl) ⟨⟨_, _, rfl, rfl, ?_⟩, ⟨_, _, rfl, rfl, ?_⟩, trivial⟩
        · skip
          refine s_callf [] [] [_, _] rfl rfl Try.call116 rfl ((c_Repeat _ 1152921504606846976 N (by omega) _ (vec_rd (S131.at 2 rfl))).mono ?_)
          rintro v135 w136 ⟨hn138, hl139⟩
          have S137 := S131.add hl139 hn138
          refine ⟨.of_le hl139, ?_⟩
          refine e_exact 19 _ (by kernel_rfl) rfl rfl (by kernel_rfl) rfl (ex_x rfl (fun w1 h1 => x_as rfl)) ?_
          refine e_exact 20 _ (by kernel_rfl) rfl rfl (by kernel_rfl) rfl (ex_x rfl (fun w1 h1 => x_as rfl)) ?_
          refine e_next [18] (by kernel_rfl) (by kernel_rfl) ⟨⟨_, _, rfl, rfl, ?_⟩, trivial⟩
          refine s_make EB false S137 rfl Try.runUnderlying101 Try.sizeOf4 Try.typeInfo4 Try.zeroValue4 rfl rfl (congrArg (Value.int .i64) (Int.toNat_of_nonneg (by omega)).symm) (congrArg (Value.int .i64) (Int.toNat_of_nonneg (by omega)).symm) (Nat.le_refl _) (by unfold maxLen; omega) (by show _ * 1 ≤ _; omega) ?_
          intro v143 w140 hv144 S141 hl142
          refine ⟨.of_le hl142, ?_⟩
          refine e_done (by kernel_rfl) ?_
          exact HK (_, _, _) _ _ ⟨rfl, rfl, rfl, rfl, rfl, trivial⟩ (S141.pick [0, 1, 4, 3, 5] (by decide) rfl)
        · skip
          refine s_make EB false S131 rfl Try.runUnderlying101 Try.sizeOf4 Try.typeInfo4 Try.zeroValue4 rfl rfl (congrArg (Value.int .i64) (Int.toNat_of_nonneg (by omega)).symm) (congrArg (Value.int .i64) (Int.toNat_of_nonneg (by omega)).symm) (Nat.le_refl _) (by unfold maxLen; omega) (by show _ * 1 ≤ _; omega) ?_
          intro v148 w145 hv149 S146 hl147
          refine ⟨.of_le hl147, ?_⟩
          refine e_next [6] (by kernel_rfl) (by kernel_rfl) ⟨⟨_, _, rfl, rfl, ?_⟩, trivial⟩
          refine s_callf [] [] [_, _] rfl rfl Try.call116 rfl ((c_Repeat _ 1152921504606846976 N (by omega) _ (vec_rd (S146.at 2 rfl))).mono ?_)
          rintro v150 w151 ⟨hn153, hl154⟩
          have S152 := S146.add hl154 hn153
          refine ⟨.of_le hl154, ?_⟩
          refine e_exact 19 _ (by kernel_rfl) rfl rfl (by kernel_rfl) rfl (ex_x rfl (fun w1 h1 => x_as rfl)) ?_
          refine e_exact 20 _ (by kernel_rfl) rfl rfl (by kernel_rfl) rfl (ex_x rfl (fun w1 h1 => x_as rfl)) ?_
          refine e_done (by kernel_rfl) ?_
          exact HK (_, _, _) _ _ ⟨rfl, rfl, rfl, rfl, rfl, trivial⟩ (S152.pick [0, 1, 5, 3, 4] (by decide) rfl)
      · skip
        refine s_make EB false S102 rfl Try.runUnderlying101 Try.sizeOf4 Try.typeInfo4 Try.zeroValue4 rfl rfl (congrArg (Value.int .i64) (Int.toNat_of_nonneg (by omega)).symm) (congrArg (Value.int .i64) (Int.toNat_of_nonneg (by omega)).symm) (Nat.le_refl _) (by unfold maxLen; omega) (by show _ * 1 ≤ _; omega) ?_
        intro v158 w155 hv159 S156 hl157
        refine ⟨.of_le hl157, ?_⟩
        refine e_next [6, 12] (by kernel_rfl) (by kernel_rfl) ⟨⟨_, _, rfl, rfl, ?_⟩, ⟨_, _, rfl, rfl, ?_⟩, trivial⟩
        · skip
          refine s_callf [] [] [_, _] rfl rfl Try.call116 rfl ((c_Repeat _ 1152921504606846976 N (by omega) _ (vec_rd (S156.at 2 rfl))).mono ?_)
          rintro v160 w161 ⟨hn163, hl164⟩
          have S162 := S156.add hl164 hn163
          refine ⟨.of_le hl164, ?_⟩
          refine e_exact 19 _ (by kernel_rfl) rfl rfl (by kernel_rfl) rfl (ex_x rfl (fun w1 h1 => x_as rfl)) ?_
          refine e_next [12] (by kernel_rfl) (by kernel_rfl) ⟨⟨_, _, rfl, rfl, ?_⟩, trivial⟩
          refine s_make ES ⟨0, false, 0, 0, 0⟩ S162 rfl Try.runUnderlying135 Try.sizeOf126 Try.typeInfo126 Try.zeroValue126 rfl rfl (congrArg (Value.int .i64) (Int.toNat_of_nonneg (by omega)).symm) (congrArg (Value.int .i64) (Int.toNat_of_nonneg (by omega)).symm) (Nat.le_refl _) (by unfold maxLen; omega) (by show _ * 40 ≤ _; omega) ?_
          intro v168 w165 hv169 S166 hl167
          refine ⟨.of_le hl167, ?_⟩
          refine e_exact 20 _ (by kernel_rfl) rfl rfl (by kernel_rfl) rfl (ex_x rfl (fun w1 h1 => x_as rfl)) ?_
          refine e_done (by kernel_rfl) ?_
          exact HK (_, _, _) _ _ ⟨rfl, rfl, rfl, rfl, rfl, trivial⟩ (S166.pick [0, 1, 4, 5, 3] (by decide) rfl)
        · skip
          refine s_make ES ⟨0, false, 0, 0, 0⟩ S156 rfl Try.runUnderlying135 Try.sizeOf126 Try.typeInfo126 Try.zeroValue126 rfl rfl (congrArg (Value.int .i64) (Int.toNat_of_nonneg (by omega)).symm) (congrArg (Value.int .i64) (Int.toNat_of_nonneg (by omega)).symm) (Nat.le_refl _) (by unfold maxLen; omega) (by show _ * 40 ≤ _; omega) ?_
          intro v173 w170 hv174 S171 hl172
          refine ⟨.of_le hl172, ?_⟩
          refine e_next [6] (by kernel_rfl) (by kernel_rfl) ⟨⟨_, _, rfl, rfl, ?_⟩, trivial⟩
          refine s_callf [] [] [_, _] rfl rfl Try.call116 rfl ((c_Repeat _ 1152921504606846976 N (by omega) _ (vec_rd (S171.at 2 rfl))).mono ?_)
          rintro v175 w176 ⟨hn178, hl179⟩
          have S177 := S171.add hl179 hn178
          refine ⟨.of_le hl179, ?_⟩
          refine e_exact 19 _ (by kernel_rfl) rfl rfl (by kernel_rfl) rfl (ex_x rfl (fun w1 h1 => x_as rfl)) ?_
          refine e_exact 20 _ (by kernel_rfl) rfl rfl (by kernel_rfl) rfl (ex_x rfl (fun w1 h1 => x_as rfl)) ?_
          refine e_done (by kernel_rfl) ?_
          exact HK (_, _, _) _ _ ⟨rfl, rfl, rfl, rfl, rfl, trivial⟩ (S177.pick [0, 1, 5, 4, 3] (by decide) rfl)
    · skip
      refine s_make ES ⟨0, false, 0, 0, 0⟩ S9 rfl Try.runUnderlying135 Try.sizeOf126 Try.typeInfo126 Try.zeroValue126 rfl rfl (congrArg (Value.int .i64) (Int.toNat_of_nonneg (by omega)).symm) (congrArg (Value.int .i64) (Int.toNat_of_nonneg (by omega)).symm) (Nat.le_refl _) (by unfold maxLen; omega) (by show _ * 40 ≤ _; omega) ?_
      intro v183 w180 hv184 S181 hl182
      refine ⟨.of_le hl182, ?_⟩
      refine e_next [0, 18] (by kernel_rfl) (by kernel_rfl) ⟨⟨_, _, rfl, rfl, ?_⟩, ⟨_, _, rfl, rfl, ?_⟩, trivial⟩
      · skip
        refine s_buildSlice EI [_] S181 rfl Try.runUnderlying25 Try.sizeOf3 Try.zeroValue3 rfl ⟨rfl, rfl, trivial⟩ (by decide) ?_
        intro v188 w185 S186 hl187
        refine ⟨.of_le hl187, ?_⟩
        refine e_next [6, 18] (by kernel_rfl) (by kernel_rfl) ⟨⟨_, _, rfl, rfl, ?_⟩, ⟨_, _, rfl, rfl, ?_⟩, trivial⟩
        · skip
          refine s_callf [] [] [_, _] rfl rfl Try.call116 rfl ((c_Repeat _ 1152921504606846976 N (by omega) _ (vec_rd (S186.at 3 rfl))).mono ?_)
          rintro v189 w190 ⟨hn192, hl193⟩
          have S191 := S186.add hl193 hn192
          refine ⟨.of_le hl193, ?_⟩
          refine e_exact 19 _ (by kernel_rfl) rfl rfl (by kernel_rfl) rfl (ex_x rfl (fun w1 h1 => x_as rfl)) ?_
          refine e_exact 20 _ (by kernel_rfl) rfl rfl (by kernel_rfl) rfl (ex_x rfl (fun w1 h1 => x_as rfl)) ?_
          refine e_next [18] (by kernel_rfl) (by kernel_rfl) ⟨⟨_, _, rfl, rfl, ?_⟩, trivial⟩
          refine s_make EB false S191 rfl Try.runUnderlying101 Try.sizeOf4 Try.typeInfo4 Try.zeroValue4 rfl rfl (congrArg (Value.int .i64) (Int.toNat_of_nonneg (by omega)).symm) (congrArg (Value.int .i64) (Int.toNat_of_nonneg (by omega)).symm) (Nat.le_refl _) (by unfold maxLen; omega) (by show _ * 1 ≤ _; omega) ?_
          intro v197 w194 hv198 S195 hl196
          refine ⟨.of_le hl196, ?_⟩
          refine e_done (by kernel_rfl) ?_
          exact HK (_, _, _) _ _ ⟨rfl, rfl, rfl, rfl, rfl, trivial⟩ (S195.pick [0, 1, 4, 2, 5] (by decide) rfl)
        · skip
          refine s_make EB false S186 rfl Try.runUnderlying101 Try.sizeOf4 Try.typeInfo4 Try.zeroValue4 rfl rfl (congrArg (Value.int .i64) (Int.toNat_of_nonneg (by omega)).symm) (congrArg (Value.int .i64) (Int.toNat_of_nonneg (by omega)).symm) (Nat.le_refl _) (by unfold maxLen; omega) (by show _ * 1 ≤ _; omega) ?_
          intro v202 w199 hv203 S200 hl201
          refine ⟨.of_le hl201, ?_⟩
          refine e_next [6] (by kernel_rfl) (by kernel_rfl) ⟨⟨_, _, rfl, rfl, ?_⟩, trivial⟩
          refine s_callf [] [] [_, _] rfl rfl Try.call116 rfl ((c_Repeat _ 1152921504606846976 N (by omega) _ (vec_rd (S200.at 3 rfl))).mono ?_)
          rintro v204 w205 ⟨hn207, hl208⟩
          have S206 := S200.add hl208 hn207
          refine ⟨.of_le hl208, ?_⟩
          refine e_exact 19 _ (by kernel_rfl) rfl rfl (by kernel_rfl) rfl (ex_x rfl (fun w1 h1 => x_as rfl)) ?_
          refine e_exact 20 _ (by kernel_rfl) rfl rfl (by kernel_rfl) rfl (ex_x rfl (fun w1 h1 => x_as rfl)) ?_
          refine e_done (by kernel_rfl) ?_
          exact HK (_, _, _) _ _ ⟨rfl, rfl, rfl, rfl, rfl, trivial⟩ (S206.pick [0, 1, 5, 2, 4] (by decide) rfl)
      · skip
        refine s_make EB false S181 rfl Try.runUnderlying101 Try.sizeOf4 Try.typeInfo4 Try.zeroValue4 rfl rfl (congrArg (Value.int .i64) (Int.toNat_of_nonneg (by omega)).symm) (congrArg (Value.int .i64) (Int.toNat_of_nonneg (by omega)).symm) (Nat.le_refl _) (by unfold maxLen; omega) (by show _ * 1 ≤ _; omega) ?_
        intro v212 w209 hv213 S210 hl211
        refine ⟨.of_le hl211, ?_⟩
        refine e_next [0] (by kernel_rfl) (by kernel_rfl) ⟨⟨_, _, rfl, rfl, ?_⟩, trivial⟩
        refine s_buildSlice EI [_] S210 rfl Try.runUnderlying25 Try.sizeOf3 Try.zeroValue3 rfl ⟨rfl, rfl, trivial⟩ (by decide) ?_
        intro v217 w214 S215 hl216
        refine ⟨.of_le hl216, ?_⟩
        refine e_next [6] (by kernel_rfl) (by kernel_rfl) ⟨⟨_, _, rfl, rfl, ?_⟩, trivial⟩
        refine s_callf [] [] [_, _] rfl rfl Try.call116 rfl ((c_Repeat _ 1152921504606846976 N (by omega) _ (vec_rd (S215.at 4 rfl))).mono ?_)
        rintro v218 w219 ⟨hn221, hl222⟩
        have S220 := S215.add hl222 hn221
        refine ⟨.of_le hl222, ?_⟩
        refine e_exact 19 _ (by kernel_rfl) rfl rfl (by kernel_rfl) rfl (ex_x rfl (fun w1 h1 => x_as rfl)) ?_
        refine e_exact 20 _ (by kernel_rfl) rfl rfl (by kernel_rfl) rfl (ex_x rfl (fun w1 h1 => x_as rfl)) ?_
        refine e_done (by kernel_rfl) ?_
        exact HK (_, _, _) _ _ ⟨rfl, rfl, rfl, rfl, rfl, trivial⟩ (S220.pick [0, 1, 5, 2, 3] (by decide) rfl)
    · skip
      refine s_make EB false S9 rfl Try.runUnderlying101 Try.sizeOf4 Try.typeInfo4 Try.zeroValue4 rfl rfl (congrArg (Value.int .i64) (Int.toNat_of_nonneg (by omega)).symm) (congrArg (Value.int .i64) (Int.toNat_of_nonneg (by omega)).symm) (Nat.le_refl _) (by unfold maxLen; omega) (by show _ * 1 ≤ _; omega) ?_
      intro v226 w223 hv227 S224 hl225
      refine ⟨.of_le hl225, ?_⟩
      refine e_next [0, 12] (by kernel_rfl) (by kernel_rfl) ⟨⟨_, _, rfl, rfl, ?_⟩, ⟨_, _, rfl, rfl, ?_⟩, trivial⟩
      · skip
        refine s_buildSlice EI [_] S224 rfl Try.runUnderlying25 Try.sizeOf3 Try.zeroValue3 rfl ⟨rfl, rfl, trivial⟩ (by decide) ?_
        intro v231 w228 S229 hl230
        refine ⟨.of_le hl230, ?_⟩
        refine e_next [6, 12] (by kernel_rfl) (by kernel_rfl) ⟨⟨_, _, rfl, rfl, ?_⟩, ⟨_, _, rfl, rfl, ?_⟩, trivial⟩
        · skip
          refine s_callf [] [] [_, _] rfl rfl Try.call116 rfl ((c_Repeat _ 1152921504606846976 N (by omega) _ (vec_rd (S229.at 3 rfl))).mono ?_)
          rintro v232 w233 ⟨hn235, hl236⟩
          have S234 := S229.add hl236 hn235
          refine ⟨.of_le hl236, ?_⟩
          refine e_exact 19 _ (by kernel_rfl) rfl rfl (by kernel_rfl) rfl (ex_x rfl (fun w1 h1 => x_as rfl)) ?_
          refine e_next [12] (by kernel_rfl) (by kernel_rfl) ⟨⟨_, _, rfl, rfl, ?_⟩, trivial⟩
          refine s_make ES ⟨0, false, 0, 0, 0⟩ S234 rfl Try.runUnderlying135 Try.sizeOf126 Try.typeInfo126 Try.zeroValue126 rfl rfl (congrArg (Value.int .i64) (Int.toNat_of_nonneg (by omega)).symm) (congrArg (Value.int .i64) (Int.toNat_of_nonneg (by omega)).symm) (Nat.le_refl _) (by unfold maxLen; omega) (by show _ * 40 ≤ _; omega) ?_
          intro v240 w237 hv241 S238 hl239
          refine ⟨.of_le hl239, ?_⟩
          refine e_exact 20 _ (by kernel_rfl) rfl rfl (by kernel_rfl) rfl (ex_x rfl (fun w1 h1 => x_as rfl)) ?_
          refine e_done (by kernel_rfl) ?_
          exact HK (_, _, _) _ _ ⟨rfl, rfl, rfl, rfl, rfl, trivial⟩ (S238.pick [0, 1, 4, 5, 2] (by decide) rfl)
        · skip
          refine s_make ES ⟨0, false, 0, 0, 0⟩ S229 rfl Try.runUnderlying135 Try.sizeOf126 Try.typeInfo126 Try.zeroValue126 rfl rfl (congrArg (Value.int .i64) (Int.toNat_of_nonneg (by omega)).symm) (congrArg (Value.int .i64) (Int.toNat_of_nonneg (by omega)).symm) (Nat.le_refl _) (by unfold maxLen; omega) (by show _ * 40 ≤ _; omega) ?_
          intro v245 w242 hv246 S243 hl244
          refine ⟨.of_le hl244, ?_⟩
          refine e_next [6] (by kernel_rfl) (by kernel_rfl) ⟨⟨_, _, rfl, rfl, ?_⟩, trivial⟩
          refine s_callf [] [] [_, _] rfl rfl Try.call116 rfl ((c_Repeat _ 1152921504606846976 N (by omega) _ (vec_rd (S243.at 3 rfl))).mono ?_)
          rintro v247 w248 ⟨hn250, hl251⟩
          have S249 := S243.add hl251 hn250
          refine ⟨.of_le hl251, ?_⟩
          refine e_exact 19 _ (by kernel_rfl) rfl rfl (by kernel_rfl) rfl (ex_x rfl (fun w1 h1 => x_as rfl)) ?_
          refine e_exact 20 _ (by kernel_rfl) rfl rfl (by kernel_rfl) rfl (ex_x rfl (fun w1 h1 => x_as rfl)) ?_
          refine e_done (by kernel_rfl) ?_
          exact HK (_, _, _) _ _ ⟨rfl, rfl, rfl, rfl, rfl, trivial⟩ (S249.pick [0, 1, 5, 4, 2] (by decide) rfl)
      · skip
        refine s_make ES ⟨0, false, 0, 0, 0⟩ S224 rfl Try.runUnderlying135 Try.sizeOf126 Try.typeInfo126 Try.zeroValue126 rfl rfl (congrArg (Value.int .i64) (Int.toNat_of_nonneg (by omega)).symm) (congrArg (Value.int .i64) (Int.toNat_of_nonneg (by omega)).symm) (Nat.le_refl _) (by unfold maxLen; omega) (by show _ * 40 ≤ _; omega) ?_
        intro v255 w252 hv256 S253 hl254
        refine ⟨.of_le hl254, ?_⟩
        refine e_next [0] (by kernel_rfl) (by kernel_rfl) ⟨⟨_, _, rfl, rfl, ?_⟩, trivial⟩
        refine s_buildSlice EI [_] S253 rfl Try.runUnderlying25 Try.sizeOf3 Try.zeroValue3 rfl ⟨rfl, rfl, trivial⟩ (by decide) ?_
        intro v260 w257 S258 hl259
        refine ⟨.of_le hl259, ?_⟩
        refine e_next [6] (by kernel_rfl) (by kernel_rfl) ⟨⟨_, _, rfl, rfl, ?_⟩, trivial⟩
        refine s_callf [] [] [_, _] rfl rfl Try.call116 rfl ((c_Repeat _ 1152921504606846976 N (by omega) _ (vec_rd (S258.at 4 rfl))).mono ?_)
        rintro v261 w262 ⟨hn264, hl265⟩
        have S263 := S258.add hl265 hn264
        refine ⟨.of_le hl265, ?_⟩
        refine e_exact 19 _ (by kernel_rfl) rfl rfl (by kernel_rfl) rfl (ex_x rfl (fun w1 h1 => x_as rfl)) ?_
        refine e_exact 20 _ (by kernel_rfl) rfl rfl (by kernel_rfl) rfl (ex_x rfl (fun w1 h1 => x_as rfl)) ?_
        refine e_done (by kernel_rfl) ?_
        exact HK (_, _, _) _ _ ⟨rfl, rfl, rfl, rfl, rfl, trivial⟩ (S263.pick [0, 1, 5, 3, 2] (by decide) rfl)

end Go.Proofs

/-
  Contracts of functions of the program: each by symbolic execution of its text.
-/
namespace Go.Proofs
open Go Go.Vk Go.Vk.Flow

set_option maxHeartbeats 1000000 in
/-- (*couchant/flow.carried).lead. -/
theorem c_lead (N : Int) (va : Value) (arcs : List Arc) (vx : Value) (x : List Int) (vw : Value) (wl : List Int) (mo p : Nat → Int) (hV : Valid N arcs) (hw0 : Wts arcs wl) (hC : Cn N arcs wl x mo p) (bc : Nat) (X : Nat → Prop) (u : World) (hX : ∀ b, X b → u.heap.size ≤ b) (hA : Rd EA u va arcs) (Hw : Rd EI u vw wl) (w : World) (S : Own X w w [blk bc (carC N va vx vw mo p) 91, vec EI vx x]) (h0 : Le u w) :
    Cl Try.prog 121 #[.pointer (some ⟨bc, 0, none⟩)] w fun v w' => (∃ vc cost last rk, v = .tuple #[.bool false, vc] ∧ Own X w w' [blk bc (carC N va vx vw mo p) 91, vec EI vx x, vec EI vc cost] ∧ Nearest N.toNat (stps p 0 arcs x wl) mo cost last rk ∧ ∀ v, v < N.toNat → mo v < 0 → ¬ nth cost v < far) ∨
    ∃ x' mo' p', v = .tuple #[.bool true, .slice none 0 0] ∧ Own X w w' [blk bc (carC N va vx vw mo' p') 91, vec EI vx x'] ∧ Cn N arcs wl x' mo' p' ∧ tot mo' < tot mo := by
  have hNx := hV.max
  have hN1 := hV.pos
  have hLx := hV.len
  have hfar : far = 1152921504606846976 := rfl
  have hxA := hC.amts hV
  have hxl := hxA.len
  have hmb : ∀ v, -4000000000 ≤ mo v ∧ mo v ≤ 4000000000 := fun v => by rw [hC.meq]; exact ex_bd_all hV hxA v
  refine fn_of_run (args := [_]) 217 Try.func121 rfl rfl rfl fun cs => ?_
  refine r_seq ?_
  refine r_region ?_
  refine l_x rfl (x_as rfl) ?_
  refine l_x rfl (x_as rfl) ?_
  refine l_nil ?_
  refine r_seq ?_
  refine r_region ?_
  refine l_x rfl (x_mv rfl) ?_
  refine l_call [] [] [_] rfl rfl Try.call135 rfl (c_nearest N va arcs vx x vw wl mo p hV hxA hw0 (fun v => by have := hC.pb v; omega) bc _ ⟨S.blk 0 rfl, hA.le (S.old h0 hX), vec_rd (S.at 1 rfl), Hw.le (S.old h0 hX)⟩ (hC.cost hw0)) ?_
  rintro _ w1 ⟨vc, vl, rfl, cost, last, rk, hnO, hn⟩
  have S2 := S.join hnO
  have hlc := hn.lc
  have hll := hn.ll
  refine l_x rfl (x_mv rfl) ?_
  refine l_x rfl (x_extract rfl rfl) ?_
  refine l_x rfl (x_extract rfl rfl) ?_
  refine l_x rfl (x_as rfl) ?_
  refine l_x rfl (x_as rfl) ?_
  refine l_nil ?_
  refine r_seq ?_
  refine r_region ?_
  refine l_x rfl (x_as rfl) ?_
  refine l_nil ?_
  refine r_seq ?_
  refine r_seq ?_
  refine r_region ?_
  refine l_x rfl (x_mv rfl) ?_
  refine l_x rfl (x_nilCheck rfl) ?_
  refine l_x rfl (x_fieldAddr rfl Try.runUnderlying91 rfl Try.sizeOf24 (by decide)) ?_
  refine l_x rfl (x_fieldAddr rfl Try.runUnderlying24 rfl Try.sizeOf3 (by decide)) ?_
  refine l_x rfl (x_load rfl (ld_blk (S2.blk 0 rfl) Try.isAgg3 rfl)) ?_
  refine l_x rfl (x_mv rfl) ?_
  refine l_nil ?_
  refine r_block ?_
  refine r_loop (G := Nat × Int) (fun ⟨i, v⟩ => N.toNat - i) (fun ⟨i, v⟩ => [(0, .pointer (some ⟨bc, 0, none⟩)), (4, vc), (5, vl), (6, .int .i64 v), (25, .int .i64 i), (24, .int .i64 N)]) (fun ⟨i, v⟩ w' => (i ≤ N.toNat) ∧ (Mp cost (fun u => mo u < 0) i v) ∧ Own X w w' [blk bc (carC N va vx vw mo p) 91, vec EI vx x, vec EI vc cost, vec ES vl last]) (0, -1) ⟨rfl, rfl, rfl, rfl, rfl, rfl, trivial⟩ ⟨Nat.zero_le _, Mp.zero, S2⟩ ?_
  rintro ⟨i, v⟩ ρ w1a ⟨hi, hM, S1a⟩ IHa
  refine r_seq ?_
  refine r_region ?_
  refine l_x rfl (x_lss rfl rfl) ?_
  refine l_nil ?_
  refine r_seq ?_
  refine r_ifd rfl (fun hc26 => ?_) (fun hc26 => ?_)
  · skip
    refine r_skip ?_
    refine r_seq ?_
    refine r_block ?_
    refine r_seq ?_
    refine r_region ?_
    refine l_x rfl (x_mv rfl) ?_
    refine l_x rfl (x_as rfl) ?_
    refine l_nil ?_
    refine r_seq ?_
    refine r_drawR 29 Try.mixed (by kernel_rfl) ?_
    refine w_x rfl (fun w1 h1 => x_mv rfl) ?_
    refine w_x rfl (fun w1 h1 => x_mv rfl) ?_
    refine w_x rfl (fun w1 h1 => x_nilCheck rfl) ?_
    refine w_x rfl (fun w1 h1 => x_fieldAddr rfl Try.runUnderlying91 rfl Try.sizeOf89 (by decide)) ?_
    refine w_x rfl (fun w1 h1 => x_indexAddr_array rfl rfl Try.runUnderlying89 Try.sizeOf3 (by omega)) ?_
    refine w_x rfl (fun w1 h1 => x_load rfl (ld_blk ((S1a.step h1).blk 0 rfl) Try.isAgg3 (carm_get rfl (by omega)))) ?_
    refine w_x rfl (fun w1 h1 => x_lss rfl rfl) ?_
    refine w_x rfl (fun w1 h1 => x_mv rfl) ?_
    refine w_splitd (d := 35) rfl (fun hg35 => ?_) (fun hg35 => ?_)
    · skip
      refine w_x rfl (fun w1 h1 => x_mv rfl) ?_
      refine w_x rfl (fun w1 h1 => x_mv rfl) ?_
      refine w_index EI rfl (vec_rd (S1a.at 2 rfl)) rfl rfl Try.runUnderlying25 Try.sizeOf3 (by omega) (nth_get (by omega)) ?_
      intro b3 o4 hat5 row6
      refine w_x rfl (fun w1 h1 => x_load rfl (ld_cell Try.isAgg3 ((row6.le h1) 0 _ rfl))) ?_
      refine w_x rfl (fun w1 h1 => x_lss rfl rfl) ?_
      refine w_x rfl (fun w1 h1 => x_pick_t rfl rfl) ?_
      refine w_x rfl (fun w1 h1 => x_mv rfl) ?_
      refine w_splitd (d := 42) rfl (fun hg42 => ?_) (fun hg42 => ?_)
      · skip
        refine w_x rfl (fun w1 h1 => x_mv rfl) ?_
        refine w_x rfl (fun w1 h1 => x_lss rfl rfl) ?_
        refine w_x rfl (fun w1 h1 => x_mv rfl) ?_
        refine w_splitd (d := 45) rfl (fun hg45 => ?_) (fun hg45 => ?_)
        · skip
          refine w_pass rfl ?_
          refine w_pass rfl ?_
          refine w_pass rfl ?_
          refine w_pass rfl ?_
          refine w_pass rfl ?_
          refine w_pass rfl ?_
          refine w_pass rfl ?_
          refine w_pass rfl ?_
          refine w_pass rfl ?_
          refine w_x rfl (fun w1 h1 => x_pick_t rfl rfl) ?_
          refine w_x rfl (fun w1 h1 => x_pick_t rfl rfl) ?_
          refine w_nil ?_
          intro w7 hl8
          have S9 := S1a.step hl8
          refine l_nil ?_
          refine r_true rfl ?_
          refine r_region ?_
          refine l_x rfl (x_mv rfl) ?_
          refine l_x rfl (x_as rfl) ?_
          refine l_nil ?_
          refine r_inBlock ?_
          refine r_region ?_
          refine l_x rfl (x_add rfl rfl (by omega)) ?_
          refine l_x rfl (x_mv rfl) ?_
          refine l_nil ?_
          exact IHa (i + 1, (i : Int)) _ _ (by dsimp only; omega) ⟨rfl, rfl, rfl, rfl, rfl, rfl, trivial⟩ ⟨by omega, hM.take1 hg45 hg35 hg42, S9⟩
        · skip
          refine w_x rfl (fun w1 h1 => x_mv rfl) ?_
          refine w_x rfl (fun w1 h1 => x_mv rfl) ?_
          refine w_index EI rfl (vec_rd (S1a.at 2 rfl)) rfl rfl Try.runUnderlying25 Try.sizeOf3 (by omega) (nth_get (by omega)) ?_
          intro b10 o11 hat12 row13
          refine w_x rfl (fun w1 h1 => x_load rfl (ld_cell Try.isAgg3 ((row13.le h1) 0 _ rfl))) ?_
          refine w_x rfl (fun w1 h1 => x_mv rfl) ?_
          refine w_x rfl (fun w1 h1 => x_mv rfl) ?_
          refine w_index EI rfl (vec_rd (S1a.at 2 rfl)) rfl rfl Try.runUnderlying25 Try.sizeOf3 (by omega) (nth_get (by have := hM.lt; omega)) ?_
          intro b14 o15 hat16 row17
          refine w_x rfl (fun w1 h1 => x_load rfl (ld_cell Try.isAgg3 ((row17.le h1) 0 _ rfl))) ?_
          refine w_x rfl (fun w1 h1 => x_lss rfl rfl) ?_
          refine w_x rfl (fun w1 h1 => x_pick_f rfl rfl) ?_
          refine w_x rfl (fun w1 h1 => x_pick_t rfl rfl) ?_
          refine w_nil ?_
          intro w18 hl19
          have S20 := S1a.step hl19
          refine l_nil ?_
          refine r_ifd rfl (fun hc56 => ?_) (fun hc56 => ?_)
          · skip
            refine r_region ?_
            refine l_x rfl (x_mv rfl) ?_
            refine l_x rfl (x_as rfl) ?_
            refine l_nil ?_
            refine r_inBlock ?_
            refine r_region ?_
            refine l_x rfl (x_add rfl rfl (by omega)) ?_
            refine l_x rfl (x_mv rfl) ?_
            refine l_nil ?_
            exact IHa (i + 1, (i : Int)) _ _ (by dsimp only; omega) ⟨rfl, rfl, rfl, rfl, rfl, rfl, trivial⟩ ⟨by omega, hM.take2 hg45 hg35 hg42 hc56, S20⟩
          · skip
            refine r_skip ?_
            refine r_inBlock ?_
            refine r_region ?_
            refine l_x rfl (x_add rfl rfl (by omega)) ?_
            refine l_x rfl (x_mv rfl) ?_
            refine l_nil ?_
            exact IHa (i + 1, v) _ _ (by dsimp only; omega) ⟨rfl, rfl, rfl, rfl, rfl, rfl, trivial⟩ ⟨by omega, hM.keep hg45 hc56, S20⟩
      · skip
        refine w_pass rfl ?_
        refine w_pass rfl ?_
        refine w_pass rfl ?_
        refine w_pass rfl ?_
        refine w_pass rfl ?_
        refine w_pass rfl ?_
        refine w_pass rfl ?_
        refine w_pass rfl ?_
        refine w_pass rfl ?_
        refine w_pass rfl ?_
        refine w_pass rfl ?_
        refine w_pass rfl ?_
        refine w_pass rfl ?_
        refine w_x rfl (fun w1 h1 => x_pick_f rfl rfl) ?_
        refine w_nil ?_
        intro w21 hl22
        have S23 := S1a.step hl22
        refine l_nil ?_
        refine r_false rfl ?_
        refine r_skip ?_
        refine r_inBlock ?_
        refine r_region ?_
        refine l_x rfl (x_add rfl rfl (by omega)) ?_
        refine l_x rfl (x_mv rfl) ?_
        refine l_nil ?_
        exact IHa (i + 1, v) _ _ (by dsimp only; omega) ⟨rfl, rfl, rfl, rfl, rfl, rfl, trivial⟩ ⟨by omega, hM.skipF hg42, S23⟩
    · skip
      refine w_pass rfl ?_
      refine w_pass rfl ?_
      refine w_pass rfl ?_
      refine w_pass rfl ?_
      refine w_pass rfl ?_
      refine w_x rfl (fun w1 h1 => x_pick_f rfl rfl) ?_
      refine w_x rfl (fun w1 h1 => x_mv rfl) ?_
      refine w_pass rfl ?_
      refine w_pass rfl ?_
      refine w_pass rfl ?_
      refine w_pass rfl ?_
      refine w_pass rfl ?_
      refine w_pass rfl ?_
      refine w_pass rfl ?_
      refine w_pass rfl ?_
      refine w_pass rfl ?_
      refine w_pass rfl ?_
      refine w_pass rfl ?_
      refine w_pass rfl ?_
      refine w_pass rfl ?_
      refine w_x rfl (fun w1 h1 => x_pick_f rfl rfl) ?_
      refine w_nil ?_
      intro w24 hl25
      have S26 := S1a.step hl25
      refine l_nil ?_
      refine r_false rfl ?_
      refine r_skip ?_
      refine r_inBlock ?_
      refine r_region ?_
      refine l_x rfl (x_add rfl rfl (by omega)) ?_
      refine l_x rfl (x_mv rfl) ?_
      refine l_nil ?_
      exact IHa (i + 1, v) _ _ (by dsimp only; omega) ⟨rfl, rfl, rfl, rfl, rfl, rfl, trivial⟩ ⟨by omega, hM.skip hg35, S26⟩
  · skip
    have hie : i = N.toNat := by omega
    subst hie
    refine r_exit rfl ?_
    refine r_seq ?_
    refine r_seq ?_
    refine r_region ?_
    refine l_x rfl (x_mv rfl) ?_
    refine l_x rfl (x_lss rfl rfl) ?_
    refine l_nil ?_
    refine r_ifd rfl (fun hc60 => ?_) (fun hc60 => ?_)
    · skip
      refine r_seq ?_
      refine r_region ?_
      refine l_x rfl (x_mv rfl) ?_
      refine l_x rfl (x_as rfl) ?_
      refine l_x rfl (x_as rfl) ?_
      refine l_nil ?_
      refine r_ret (rs := [.tmp 2, .tmp 3]) [_, _] Try.func121 rfl ⟨rfl, rfl, trivial⟩ ?_
      exact .inl ⟨vc, cost, last, rk, rfl, S1a.take 3, hn, fun v hv hd => hM.elim (fun h => h.2 v hv hd) (fun ⟨v0, h, _⟩ => by omega)⟩
    · skip
      obtain ⟨to, rfl, hto, htd, htf, htm⟩ := hM.resolve_left (fun h => by omega)
      have hb6 := hn.nonneg to hto
      refine r_skip ?_
      refine r_seq ?_
      refine r_seq ?_
      refine r_region ?_
      refine l_x rfl (x_mv rfl) ?_
      refine l_x rfl (x_nilCheck rfl) ?_
      refine l_x rfl (x_fieldAddr rfl Try.runUnderlying91 rfl Try.sizeOf24 (by decide)) ?_
      refine l_x rfl (x_fieldAddr rfl Try.runUnderlying24 rfl Try.sizeOf3 (by decide)) ?_
      refine l_x rfl (x_load rfl (ld_blk (S1a.blk 0 rfl) Try.isAgg3 rfl)) ?_
      refine l_x rfl (x_mv rfl) ?_
      refine l_nil ?_
      refine r_block ?_
      refine r_loop (G := Nat) (fun i => N.toNat - i) (fun i => [(0, .pointer (some ⟨bc, 0, none⟩)), (4, vc), (5, vl), (6, .int .i64 to), (67, .int .i64 i), (66, .int .i64 N)]) (fun i w' => (i ≤ N.toNat) ∧ Own X w w' [blk bc (carC N va vx vw mo (nextp i cost (nth cost to) p)) 91, vec EI vx x, vec EI vc cost, vec ES vl last]) 0 ⟨rfl, rfl, rfl, rfl, rfl, rfl, trivial⟩ ⟨Nat.zero_le _, (by rw [nextp_zero]; exact S1a)⟩ ?_
      rintro i ρ w1b ⟨hi, S1b⟩ IHb
      refine r_seq ?_
      refine r_region ?_
      refine l_x rfl (x_lss rfl rfl) ?_
      refine l_nil ?_
      refine r_seq ?_
      refine r_ifd rfl (fun hc68 => ?_) (fun hc68 => ?_)
      · skip
        refine r_skip ?_
        refine r_seq ?_
        refine r_block ?_
        refine r_seq ?_
        refine r_region ?_
        refine l_x rfl (x_mv rfl) ?_
        refine l_x rfl (x_as rfl) ?_
        refine l_nil ?_
        have hb1 : nextp i cost (nth cost to) p ((i : Nat) : Int).toNat = p i := by rw [Int.toNat_natCast]; simp [nextp]
        have hb2 : nth cost ((i : Nat) : Int).toNat = nth cost i := rfl
        have hb3 : nth cost ((to : Nat) : Int).toNat = nth cost to := rfl
        have hb4 := hC.pb i
        have hb5 := hn.nonneg i (by omega)
        have hb6 := hn.nonneg to hto
        have hb7 := hn.bd to hto htf
        refine r_drawR 19 Try.mixed (by kernel_rfl) ?_
        refine w_x rfl (fun w1 h1 => x_mv rfl) ?_
        refine w_x rfl (fun w1 h1 => x_mv rfl) ?_
        refine w_x rfl (fun w1 h1 => x_nilCheck rfl) ?_
        refine w_x rfl (fun w1 h1 => x_fieldAddr rfl Try.runUnderlying91 rfl Try.sizeOf89 (by decide)) ?_
        refine w_x rfl (fun w1 h1 => x_indexAddr_array rfl rfl Try.runUnderlying89 Try.sizeOf3 (by omega)) ?_
        refine w_x rfl (fun w1 h1 => x_load rfl (ld_blk ((S1b.step h1).blk 0 rfl) Try.isAgg3 (carp_get rfl (by omega)))) ?_
        refine w_x rfl (fun w1 h1 => x_mv rfl) ?_
        refine w_x rfl (fun w1 h1 => x_mv rfl) ?_
        refine w_index EI rfl (vec_rd (S1b.at 2 rfl)) rfl rfl Try.runUnderlying25 Try.sizeOf3 (by omega) (nth_get (by omega)) ?_
        intro b27 o28 hat29 row30
        refine w_x rfl (fun w1 h1 => x_load rfl (ld_cell Try.isAgg3 ((row30.le h1) 0 _ rfl))) ?_
        refine w_x rfl (fun w1 h1 => x_mv rfl) ?_
        refine w_x rfl (fun w1 h1 => x_mv rfl) ?_
        refine w_index EI rfl (vec_rd (S1b.at 2 rfl)) rfl rfl Try.runUnderlying25 Try.sizeOf3 (by omega) (nth_get (by omega)) ?_
        intro b31 o32 hat33 row34
        refine w_x rfl (fun w1 h1 => x_load rfl (ld_cell Try.isAgg3 ((row34.le h1) 0 _ rfl))) ?_
        refine w_x rfl (fun w1 h1 => x_min rfl rfl) ?_
        refine w_x rfl (fun w1 h1 => x_add rfl rfl (by omega)) ?_
        refine w_x rfl (fun w1 h1 => x_nilCheck rfl) ?_
        refine w_x rfl (fun w1 h1 => x_fieldAddr rfl Try.runUnderlying91 rfl Try.sizeOf89 (by decide)) ?_
        refine w_x rfl (fun w1 h1 => x_indexAddr_array rfl rfl Try.runUnderlying89 Try.sizeOf3 (by omega)) ?_
        refine w_nil ?_
        intro w35 hl36
        have S37 := S1b.step hl36
        refine l_storeq S37 0 rfl rfl rfl rfl rfl Try.sizeOf3 (carp_lt rfl (by omega)) (carp_set rfl (by omega)) ?_
        intro w38 S39 hk40
        refine l_nil ?_
        refine r_inBlock ?_
        refine r_region ?_
        refine l_x rfl (x_add rfl rfl (by omega)) ?_
        refine l_x rfl (x_mv rfl) ?_
        refine l_nil ?_
        exact IHb (i + 1) _ _ (by omega) ⟨rfl, rfl, rfl, rfl, rfl, rfl, trivial⟩ ⟨by omega, (by rw [← nextp_step]; exact S39)⟩
      · skip
        have hie : i = N.toNat := by omega
        subst hie
        refine r_exit rfl ?_
        refine r_seq ?_
        have hb8 := hmb ((to : Nat) : Int).toNat
        have hb9 : mo ((to : Nat) : Int).toNat = mo to := rfl
        refine r_region ?_
        refine l_x rfl (x_mv rfl) ?_
        refine l_x rfl (x_mv rfl) ?_
        refine l_x rfl (x_nilCheck rfl) ?_
        refine l_x rfl (x_fieldAddr rfl Try.runUnderlying91 rfl Try.sizeOf89 (by decide)) ?_
        refine l_x rfl (x_indexAddr_array rfl rfl Try.runUnderlying89 Try.sizeOf3 (by omega)) ?_
        refine l_x rfl (x_load rfl (ld_blk (S1b.blk 0 rfl) Try.isAgg3 (carm_get rfl (by omega)))) ?_
        refine l_x rfl (x_neg rfl (by omega)) ?_
        refine l_x rfl (x_mv rfl) ?_
        refine l_x rfl (x_as rfl) ?_
        refine l_x rfl (x_as rfl) ?_
        refine l_nil ?_
        refine r_seq ?_
        refine r_block ?_
        refine r_loop (G := Nat × Int) (fun ⟨at_, much⟩ => rk at_) (fun ⟨at_, much⟩ => [(0, .pointer (some ⟨bc, 0, none⟩)), (4, vc), (5, vl), (6, .int .i64 to), (9, .int .i64 much), (10, .int .i64 at_)]) (fun ⟨at_, much⟩ w' => (at_ < N.toNat) ∧ (nth cost at_ < far) ∧ (nth cost at_ ≤ nth cost to) ∧ (Trail last to at_) ∧ (0 < much ∧ much ≤ -mo to) ∧ (∀ v t, Trail last to v → last[v]? = some t → Trail last at_ v ∨ (0 ≤ t.arc ∧ ResOk arcs x much t)) ∧ Own X w w' [blk bc (carC N va vx vw mo (nextp N.toNat cost (nth cost to) p)) 91, vec EI vx x, vec EI vc cost, vec ES vl last]) (to, -mo to) ⟨rfl, rfl, rfl, rfl, rfl, rfl, trivial⟩ ⟨hto, htf, Int.le_refl _, .refl _, by omega, fun v t h _ => .inl h, (S1b.take 4)⟩ ?_
        rintro ⟨at_, much⟩ ρ w1c ⟨hat, hatf, hatK, hR, hmp, hmu, S1c⟩ IHc
        refine r_seq ?_
        refine r_seq ?_
        obtain ⟨s, hs⟩ : ∃ s, last[at_]? = some s := ⟨_, List.getElem?_eq_getElem (by omega)⟩
        refine r_region ?_
        refine l_x rfl (x_mv rfl) ?_
        refine l_x rfl (x_mv rfl) ?_
        refine l_index ES rfl (vec_rd (S1c.at 3 rfl)) rfl rfl Try.runUnderlying135 Try.sizeOf126 (by omega) hs ?_
        intro b41 o42 hat43 row44
        refine l_x rfl (x_fieldAddr rfl Try.runUnderlying126 rfl Try.sizeOf3 (by decide)) ?_
        refine l_x rfl (x_load rfl (ld_cell Try.isAgg3 (row44 0 _ rfl))) ?_
        refine l_x rfl (x_geq rfl rfl) ?_
        refine l_nil ?_
        refine r_ifd rfl (fun hc103 => ?_) (fun hc103 => ?_)
        · skip
          obtain ⟨_, hin, hdst, hsf, hsc, hsr⟩ := (hn.fin at_ hat hatf s hs).resolve_left (fun h => by omega)
          have hok := stps_ok hV hin
          have hred := hC.red s hin
          obtain ⟨a, y, ha, hy, hcase⟩ := step_arc hin
          have haok := hV.at ha
          have hyb := hxA.at hy
          have hyl := (List.getElem?_eq_some_iff.1 hy).1
          refine r_skip ?_
          refine r_block ?_
          refine r_seq ?_
          refine r_region ?_
          refine l_x rfl (x_mv rfl) ?_
          refine l_x rfl (x_mv rfl) ?_
          refine l_index ES rfl (vec_rd (S1c.at 3 rfl)) rfl rfl Try.runUnderlying135 Try.sizeOf126 (by omega) hs ?_
          intro b45 o46 hat47 row48
          refine l_x rfl (x_load rfl (ld_row Try.isAgg126 Try.sizeOf126 rfl row48)) ?_
          refine l_alloc S1c rfl Try.zeroValue126 rfl ?_
          intro b52 w49 S50 hl51
          refine l_stores S50 4 rfl rfl rfl rfl (ES.one _) Try.sizeOf126 (by first | exact Nat.le_refl _ | simp) (splice_all rfl) ?_
          intro w53 S54 hk55
          refine l_nil ?_
          refine r_seq ?_
          refine r_drawE 10 nob Try.mixed (by kernel_rfl) ?_
          intro w56 hl57
          have S58 := S54.step hl57
          refine e_exact 0 _ (by kernel_rfl) rfl rfl (by kernel_rfl) rfl (ex_x rfl (fun w1 h1 => x_mv rfl)) ?_
          refine e_exact 1 _ (by kernel_rfl) rfl rfl (by kernel_rfl) rfl (ex_x rfl (fun w1 h1 => x_nilCheck rfl)) ?_
          refine e_exact 2 _ (by kernel_rfl) rfl rfl (by kernel_rfl) rfl (ex_x rfl (fun w1 h1 => x_fieldAddr rfl Try.runUnderlying91 rfl Try.sizeOf24 (by decide))) ?_
          refine e_exact 3 _ (by kernel_rfl) rfl rfl (by kernel_rfl) rfl (ex_x rfl (fun w1 h1 => x_fieldAddr rfl Try.runUnderlying24 rfl Try.sizeOf22 (by decide))) ?_
          refine e_exact 4 _ (by kernel_rfl) rfl rfl (by kernel_rfl) rfl (ex_x rfl (fun w1 h1 => x_load rfl (ld_blk ((S58.step h1).blk 0 rfl) Try.isAgg22 rfl))) ?_
          refine e_exact 5 _ (by kernel_rfl) rfl rfl (by kernel_rfl) rfl (ex_x rfl (fun w1 h1 => x_fieldAddr rfl Try.runUnderlying126 rfl Try.sizeOf3 (by decide))) ?_
          refine e_exact 6 _ (by kernel_rfl) rfl rfl (by kernel_rfl) rfl (ex_x rfl (fun w1 h1 => x_load rfl (ld_blk ((S58.step h1).blk 4 rfl) Try.isAgg3 rfl))) ?_
          refine e_index EA 7 (by kernel_rfl) rfl rfl (by kernel_rfl) rfl rfl (hA.le (S58.old h0 hX)) rfl rfl Try.runUnderlying22 Try.sizeOf39 (by omega) ha ?_
          intro b59 o60 hat61
          refine e_exact 8 _ (by kernel_rfl) rfl rfl (by kernel_rfl) rfl (ex_x rfl (fun w1 h1 => x_load rfl (ld_row Try.isAgg39 Try.sizeOf39 rfl (rd_row (hA.le ((S58.step h1).old h0 hX)) hat61 ha)))) ?_
          refine e_next [9] (by kernel_rfl) (by kernel_rfl) ⟨⟨_, _, rfl, rfl, ?_⟩, trivial⟩
          refine s_alloc S58 rfl Try.zeroValue39 rfl ?_
          intro b65 w62 S63 hl64
          refine ⟨.of_le hl64, ?_⟩
          refine e_done (by kernel_rfl) ?_
          refine l_stores S63 5 rfl rfl rfl rfl (EA.one _) Try.sizeOf39 (by first | exact Nat.le_refl _ | simp) (splice_all rfl) ?_
          intro w66 S67 hk68
          refine l_nil ?_
          refine r_seq ?_
          refine r_seq ?_
          refine r_region ?_
          refine l_x rfl (x_fieldAddr rfl Try.runUnderlying126 rfl Try.sizeOf4 (by decide)) ?_
          refine l_x rfl (x_load rfl (ld_blk (S67.blk 4 rfl) Try.isAgg4 rfl)) ?_
          refine l_nil ?_
          refine r_if rfl (fun hc118 => ?_) (fun hc118 => ?_)
          · skip
            have hcb := hcase.resolve_right (fun h => by rw [hc118] at h; exact absurd h.1 (by simp))
            refine r_drawR 14 Try.mixed (by kernel_rfl) ?_
            refine w_x rfl (fun w1 h1 => x_mv rfl) ?_
            refine w_x rfl (fun w1 h1 => x_mv rfl) ?_
            refine w_x rfl (fun w1 h1 => x_nilCheck rfl) ?_
            refine w_x rfl (fun w1 h1 => x_fieldAddr rfl Try.runUnderlying91 rfl Try.sizeOf25 (by decide)) ?_
            refine w_x rfl (fun w1 h1 => x_load rfl (ld_blk ((S67.step h1).blk 0 rfl) Try.isAgg25 rfl)) ?_
            refine w_x rfl (fun w1 h1 => x_fieldAddr rfl Try.runUnderlying126 rfl Try.sizeOf3 (by decide)) ?_
            refine w_x rfl (fun w1 h1 => x_load rfl (ld_blk ((S67.step h1).blk 4 rfl) Try.isAgg3 rfl)) ?_
            refine w_index EI rfl (vec_rd (S67.at 1 rfl)) rfl rfl Try.runUnderlying25 Try.sizeOf3 (by omega) hy ?_
            intro b69 o70 hat71 row72
            refine w_x rfl (fun w1 h1 => x_load rfl (ld_cell Try.isAgg3 ((row72.le h1) 0 _ rfl))) ?_
            refine w_x rfl (fun w1 h1 => x_fieldAddr rfl Try.runUnderlying39 rfl Try.sizeOf3 (by decide)) ?_
            refine w_x rfl (fun w1 h1 => x_load rfl (ld_blk ((S67.step h1).blk 5 rfl) Try.isAgg3 rfl)) ?_
            refine w_x rfl (fun w1 h1 => x_sub rfl rfl (by omega)) ?_
            refine w_x rfl (fun w1 h1 => x_min rfl rfl) ?_
            refine w_x rfl (fun w1 h1 => x_as rfl) ?_
            refine w_nil ?_
            intro w73 hl74
            have S75 := S67.step hl74
            refine l_nil ?_
            refine r_region ?_
            refine l_x rfl (x_fieldAddr rfl Try.runUnderlying126 rfl Try.sizeOf3 (by decide)) ?_
            refine l_x rfl (x_load rfl (ld_blk (S75.blk 4 rfl) Try.isAgg3 rfl)) ?_
            refine l_x rfl (x_as rfl) ?_
            refine l_nil ?_
            refine r_inBlock ?_
            exact IHc (s.src.toNat, (min much (y - a.lo))) _ _ (by dsimp only; exact hsr) ⟨rfl, rfl, rfl, rfl, rfl, (congrArg (Value.int .i64) (by omega : s.src = ((s.src.toNat : Nat) : Int))), trivial⟩ ⟨by omega, hsf, by omega, hR.snoc hs hc103, by omega, much_step hmu hs hc103 (ResOk.of ha hy (fun _ => by omega) (fun hb => by rw [hc118] at hb; cases hb)) (by omega), (S75.take 4)⟩
          · skip
            have hcb := hcase.resolve_left (fun h => by rw [hc118] at h; exact absurd h.1 (by simp))
            refine r_drawR 14 Try.mixed (by kernel_rfl) ?_
            refine w_x rfl (fun w1 h1 => x_mv rfl) ?_
            refine w_x rfl (fun w1 h1 => x_fieldAddr rfl Try.runUnderlying39 rfl Try.sizeOf3 (by decide)) ?_
            refine w_x rfl (fun w1 h1 => x_load rfl (ld_blk ((S67.step h1).blk 5 rfl) Try.isAgg3 rfl)) ?_
            refine w_x rfl (fun w1 h1 => x_mv rfl) ?_
            refine w_x rfl (fun w1 h1 => x_nilCheck rfl) ?_
            refine w_x rfl (fun w1 h1 => x_fieldAddr rfl Try.runUnderlying91 rfl Try.sizeOf25 (by decide)) ?_
            refine w_x rfl (fun w1 h1 => x_load rfl (ld_blk ((S67.step h1).blk 0 rfl) Try.isAgg25 rfl)) ?_
            refine w_x rfl (fun w1 h1 => x_fieldAddr rfl Try.runUnderlying126 rfl Try.sizeOf3 (by decide)) ?_
            refine w_x rfl (fun w1 h1 => x_load rfl (ld_blk ((S67.step h1).blk 4 rfl) Try.isAgg3 rfl)) ?_
            refine w_index EI rfl (vec_rd (S67.at 1 rfl)) rfl rfl Try.runUnderlying25 Try.sizeOf3 (by omega) hy ?_
            intro b76 o77 hat78 row79
            refine w_x rfl (fun w1 h1 => x_load rfl (ld_cell Try.isAgg3 ((row79.le h1) 0 _ rfl))) ?_
            refine w_x rfl (fun w1 h1 => x_sub rfl rfl (by omega)) ?_
            refine w_x rfl (fun w1 h1 => x_min rfl rfl) ?_
            refine w_x rfl (fun w1 h1 => x_as rfl) ?_
            refine w_nil ?_
            intro w80 hl81
            have S82 := S67.step hl81
            refine l_nil ?_
            refine r_region ?_
            refine l_x rfl (x_fieldAddr rfl Try.runUnderlying126 rfl Try.sizeOf3 (by decide)) ?_
            refine l_x rfl (x_load rfl (ld_blk (S82.blk 4 rfl) Try.isAgg3 rfl)) ?_
            refine l_x rfl (x_as rfl) ?_
            refine l_nil ?_
            refine r_inBlock ?_
            exact IHc (s.src.toNat, (min much (a.hi - y))) _ _ (by dsimp only; exact hsr) ⟨rfl, rfl, rfl, rfl, rfl, (congrArg (Value.int .i64) (by omega : s.src = ((s.src.toNat : Nat) : Int))), trivial⟩ ⟨by omega, hsf, by omega, hR.snoc hs hc103, by omega, much_step hmu hs hc103 (ResOk.of ha hy (fun hb => by rw [hc118] at hb; cases hb) (fun _ => by omega)) (by omega), (S82.take 4)⟩
        · skip
          refine r_exit rfl ?_
          refine r_seq ?_
          have hsrc := (hn.fin at_ hat hatf s hs).resolve_right (fun h => by omega)
          have hb10 := hmb ((at_ : Nat) : Int).toNat
          have hb11 : mo ((at_ : Nat) : Int).toNat = mo at_ := rfl
          have hb12 := hsrc.2.2
          have hend : ∀ v t, Trail last to v → last[v]? = some t → (v = at_ ∧ t.arc < 0) ∨ (0 ≤ t.arc ∧ ResOk arcs x much t) := fun v t hv ht => (hmu v t hv ht).imp (fun h => by have e := h.stop hs (by omega); subst e; rw [hs] at ht; cases ht; exact ⟨rfl, by omega⟩) id
          obtain ⟨mu, hmuE⟩ : ∃ mu, mu = min much (mo at_) := ⟨_, rfl⟩
          refine r_region ?_
          refine l_x rfl (x_mv rfl) ?_
          refine l_x rfl (x_mv rfl) ?_
          refine l_x rfl (x_mv rfl) ?_
          refine l_x rfl (x_nilCheck rfl) ?_
          refine l_x rfl (x_fieldAddr rfl Try.runUnderlying91 rfl Try.sizeOf89 (by decide)) ?_
          refine l_x rfl (x_indexAddr_array rfl rfl Try.runUnderlying89 Try.sizeOf3 (by omega)) ?_
          refine l_x rfl (x_load rfl (ld_blk (S1c.blk 0 rfl) Try.isAgg3 (carm_get rfl (by omega)))) ?_
          refine l_x rfl (x_min rfl rfl) ?_
          refine l_x rfl (x_as rfl) ?_
          refine l_nil ?_
          refine r_seq ?_
          refine r_slot 9 (.int .i64 mu) (congrArg (Value.int .i64) hmuE.symm) ?_
          refine r_drawR 11 Try.mixed (by kernel_rfl) ?_
          refine w_x rfl (fun w1 h1 => x_mv rfl) ?_
          refine w_x rfl (fun w1 h1 => x_mv rfl) ?_
          refine w_x rfl (fun w1 h1 => x_nilCheck rfl) ?_
          refine w_x rfl (fun w1 h1 => x_fieldAddr rfl Try.runUnderlying91 rfl Try.sizeOf89 (by decide)) ?_
          refine w_x rfl (fun w1 h1 => x_indexAddr_array rfl rfl Try.runUnderlying89 Try.sizeOf3 (by omega)) ?_
          refine w_x rfl (fun w1 h1 => x_load rfl (ld_blk ((S1c.step h1).blk 0 rfl) Try.isAgg3 (carm_get rfl (by omega)))) ?_
          refine w_x rfl (fun w1 h1 => x_mv rfl) ?_
          refine w_x rfl (fun w1 h1 => x_sub rfl rfl (by omega)) ?_
          refine w_x rfl (fun w1 h1 => x_nilCheck rfl) ?_
          refine w_x rfl (fun w1 h1 => x_fieldAddr rfl Try.runUnderlying91 rfl Try.sizeOf89 (by decide)) ?_
          refine w_x rfl (fun w1 h1 => x_indexAddr_array rfl rfl Try.runUnderlying89 Try.sizeOf3 (by omega)) ?_
          refine w_nil ?_
          intro w83 hl84
          have S85 := S1c.step hl84
          refine l_storeq S85 0 rfl rfl rfl rfl rfl Try.sizeOf3 (carm_lt rfl (by omega)) (carm_set rfl (by omega)) ?_
          intro w86 S87 hk88
          refine l_nil ?_
          refine r_seq ?_
          have hne : ¬ to = at_ := fun e => by rw [e] at htd; omega
          have hb13 : upf mo ((at_ : Nat) : Int).toNat (mo ((at_ : Nat) : Int).toNat - mu) ((to : Nat) : Int).toNat = mo to := by rw [Int.toNat_natCast, Int.toNat_natCast]; simp [upf, hne]
          refine r_drawR 11 Try.mixed (by kernel_rfl) ?_
          refine w_x rfl (fun w1 h1 => x_mv rfl) ?_
          refine w_x rfl (fun w1 h1 => x_mv rfl) ?_
          refine w_x rfl (fun w1 h1 => x_nilCheck rfl) ?_
          refine w_x rfl (fun w1 h1 => x_fieldAddr rfl Try.runUnderlying91 rfl Try.sizeOf89 (by decide)) ?_
          refine w_x rfl (fun w1 h1 => x_indexAddr_array rfl rfl Try.runUnderlying89 Try.sizeOf3 (by omega)) ?_
          refine w_x rfl (fun w1 h1 => x_load rfl (ld_blk ((S87.step h1).blk 0 rfl) Try.isAgg3 (carm_get rfl (by omega)))) ?_
          refine w_x rfl (fun w1 h1 => x_mv rfl) ?_
          refine w_x rfl (fun w1 h1 => x_add rfl rfl (by omega)) ?_
          refine w_x rfl (fun w1 h1 => x_nilCheck rfl) ?_
          refine w_x rfl (fun w1 h1 => x_fieldAddr rfl Try.runUnderlying91 rfl Try.sizeOf89 (by decide)) ?_
          refine w_x rfl (fun w1 h1 => x_indexAddr_array rfl rfl Try.runUnderlying89 Try.sizeOf3 (by omega)) ?_
          refine w_nil ?_
          intro w89 hl90
          have S91 := S87.step hl90
          refine l_storeq S91 0 rfl rfl rfl rfl rfl Try.sizeOf3 (carm_lt rfl (by omega)) (carm_set rfl (by omega)) ?_
          intro w92 S93 hk94
          refine l_nil ?_
          refine r_seq ?_
          refine r_seq ?_
          refine r_region ?_
          refine l_x rfl (x_mv rfl) ?_
          refine l_x rfl (x_as rfl) ?_
          refine l_nil ?_
          refine r_block ?_
          refine r_loop (G := Nat × List Int) (fun ⟨at2, x'⟩ => rk at2) (fun ⟨at2, x'⟩ => [(0, .pointer (some ⟨bc, 0, none⟩)), (4, vc), (5, vl), (9, .int .i64 mu), (13, .int .i64 at2)]) (fun ⟨at2, x'⟩ w' => (at2 < N.toNat) ∧ (nth cost at2 < far) ∧ (Trail last to at2) ∧ (Aug arcs wl x mu (nextp N.toNat cost (nth cost to) p) last to at2 x') ∧ Own X w w' [blk bc (carC N va vx vw (upf (upf mo at_ (mo at_ - mu)) to (upf mo at_ (mo at_ - mu) to + mu)) (nextp N.toNat cost (nth cost to) p)) 91, vec EI vx x', vec EI vc cost, vec ES vl last]) (to, x) ⟨rfl, rfl, rfl, rfl, rfl, trivial⟩ ⟨hto, htf, .refl _, Aug.start hC.bds (nextp_red hC hV hw0 hn htf), (S93.take 4)⟩ ?_
          rintro ⟨at2, x'⟩ ρ w1d ⟨hat2, hatf2, hR2, hAg, S1d⟩ IHd
          refine r_seq ?_
          refine r_seq ?_
          obtain ⟨s, hs⟩ : ∃ s, last[at2]? = some s := ⟨_, List.getElem?_eq_getElem (by omega)⟩
          refine r_region ?_
          refine l_x rfl (x_mv rfl) ?_
          refine l_x rfl (x_mv rfl) ?_
          refine l_index ES rfl (vec_rd (S1d.at 3 rfl)) rfl rfl Try.runUnderlying135 Try.sizeOf126 (by omega) hs ?_
          intro b95 o96 hat97 row98
          refine l_x rfl (x_fieldAddr rfl Try.runUnderlying126 rfl Try.sizeOf3 (by decide)) ?_
          refine l_x rfl (x_load rfl (ld_cell Try.isAgg3 (row98 0 _ rfl))) ?_
          refine l_x rfl (x_geq rfl rfl) ?_
          refine l_nil ?_
          refine r_ifd rfl (fun hc183 => ?_) (fun hc183 => ?_)
          · skip
            obtain ⟨_, hin, hdst, hsf, hsc, hsr⟩ := (hn.fin at2 hat2 hatf2 s hs).resolve_left (fun h => by omega)
            have hok := stps_ok hV hin
            have hred := hC.red s hin
            obtain ⟨a, y, ha, hy, hcase⟩ := step_arc hin
            have haok := hV.at ha
            have hyb := hxA.at hy
            have hyl := (List.getElem?_eq_some_iff.1 hy).1
            have hyx := (hAg.same at2 s (.refl _) hs hc183).trans hy
            have hres : ResOk arcs x mu s := ((hend at2 s hR2 hs).resolve_left (fun h => by omega)).2.le (by omega)
            have hatK2 : nth cost at2 ≤ nth cost to := (hR2.facts hn (fun s hs => by have h1 := stps_ok hV hs; have h2 := hC.red s hs; omega) hto htf).2.2.1
            refine r_skip ?_
            refine r_seq ?_
            refine r_block ?_
            refine r_seq ?_
            refine r_region ?_
            refine l_x rfl (x_mv rfl) ?_
            refine l_x rfl (x_mv rfl) ?_
            refine l_index ES rfl (vec_rd (S1d.at 3 rfl)) rfl rfl Try.runUnderlying135 Try.sizeOf126 (by omega) hs ?_
            intro b99 o100 hat101 row102
            refine l_x rfl (x_load rfl (ld_row Try.isAgg126 Try.sizeOf126 rfl row102)) ?_
            refine l_alloc S1d rfl Try.zeroValue126 rfl ?_
            intro b106 w103 S104 hl105
            refine l_stores S104 4 rfl rfl rfl rfl (ES.one _) Try.sizeOf126 (by first | exact Nat.le_refl _ | simp) (splice_all rfl) ?_
            intro w107 S108 hk109
            refine l_nil ?_
            refine r_seq ?_
            refine r_region ?_
            refine l_x rfl (x_fieldAddr rfl Try.runUnderlying126 rfl Try.sizeOf4 (by decide)) ?_
            refine l_x rfl (x_load rfl (ld_blk (S108.blk 4 rfl) Try.isAgg4 rfl)) ?_
            refine l_nil ?_
            refine r_if rfl (fun hc194 => ?_) (fun hc194 => ?_)
            · skip
              have hcb := hcase.resolve_right (fun h => by rw [hc194] at h; exact absurd h.1 (by simp))
              refine r_drawR 11 Try.mixed (by kernel_rfl) ?_
              refine w_x rfl (fun w1 h1 => x_mv rfl) ?_
              refine w_x rfl (fun w1 h1 => x_nilCheck rfl) ?_
              refine w_x rfl (fun w1 h1 => x_fieldAddr rfl Try.runUnderlying91 rfl Try.sizeOf25 (by decide)) ?_
              refine w_x rfl (fun w1 h1 => x_load rfl (ld_blk ((S108.step h1).blk 0 rfl) Try.isAgg25 rfl)) ?_
              refine w_x rfl (fun w1 h1 => x_fieldAddr rfl Try.runUnderlying126 rfl Try.sizeOf3 (by decide)) ?_
              refine w_x rfl (fun w1 h1 => x_load rfl (ld_blk ((S108.step h1).blk 4 rfl) Try.isAgg3 rfl)) ?_
              refine w_index EI rfl (vec_rd (S108.at 1 rfl)) rfl rfl Try.runUnderlying25 Try.sizeOf3 (by omega) hyx ?_
              intro b110 o111 hat112 row113
              refine w_x rfl (fun w1 h1 => x_load rfl (ld_cell Try.isAgg3 ((row113.le h1) 0 _ rfl))) ?_
              refine w_x rfl (fun w1 h1 => x_mv rfl) ?_
              refine w_x rfl (fun w1 h1 => x_sub rfl rfl (by omega)) ?_
              refine w_index EI rfl (vec_rd (S108.at 1 rfl)) rfl rfl Try.runUnderlying25 Try.sizeOf3 (by omega) hyx ?_
              intro b114 o115 hat116 row117
              refine w_nil ?_
              intro w118 hl119
              have S120 := S108.step hl119
              refine l_storevi (f := 0) S120 1 rfl rfl hat116 rfl rfl Try.sizeOf3 hyx (by decide) rfl ?_
              intro w121 S122 hk123
              refine l_nil ?_
              refine r_inBlock ?_
              refine r_region ?_
              refine l_x rfl (x_mv rfl) ?_
              refine l_x rfl (x_mv rfl) ?_
              refine l_index ES rfl (vec_rd (S122.at 3 rfl)) rfl rfl Try.runUnderlying135 Try.sizeOf126 (by omega) hs ?_
              intro b124 o125 hat126 row127
              refine l_x rfl (x_fieldAddr rfl Try.runUnderlying126 rfl Try.sizeOf3 (by decide)) ?_
              refine l_x rfl (x_load rfl (ld_cell Try.isAgg3 (row127 2 _ rfl))) ?_
              refine l_x rfl (x_as rfl) ?_
              refine l_nil ?_
              exact IHd (s.src.toNat, x'.set s.arc.toNat (y - mu)) _ _ (by dsimp only; exact hsr) ⟨rfl, rfl, rfl, rfl, (congrArg (Value.int .i64) (by omega : s.src = ((s.src.toNat : Nat) : Int))), trivial⟩ ⟨by omega, hsf, hR2.snoc hs hc183, hAg.step hV hs hc183 (by omega) hin hdst (nextp_tight hC hV hw0 hn hat2 hatf2 (by omega) hs hc183).2 hres (fun v t hv ht _ => way_inj hV hn (fun s hs => hC.red s hs) hat2 hatf2 hs hc183 hv ht) hyx (.inl ⟨hc194, rfl⟩), (S122.take 4)⟩
            · skip
              have hcb := hcase.resolve_left (fun h => by rw [hc194] at h; exact absurd h.1 (by simp))
              refine r_drawR 11 Try.mixed (by kernel_rfl) ?_
              refine w_x rfl (fun w1 h1 => x_mv rfl) ?_
              refine w_x rfl (fun w1 h1 => x_nilCheck rfl) ?_
              refine w_x rfl (fun w1 h1 => x_fieldAddr rfl Try.runUnderlying91 rfl Try.sizeOf25 (by decide)) ?_
              refine w_x rfl (fun w1 h1 => x_load rfl (ld_blk ((S108.step h1).blk 0 rfl) Try.isAgg25 rfl)) ?_
              refine w_x rfl (fun w1 h1 => x_fieldAddr rfl Try.runUnderlying126 rfl Try.sizeOf3 (by decide)) ?_
              refine w_x rfl (fun w1 h1 => x_load rfl (ld_blk ((S108.step h1).blk 4 rfl) Try.isAgg3 rfl)) ?_
              refine w_index EI rfl (vec_rd (S108.at 1 rfl)) rfl rfl Try.runUnderlying25 Try.sizeOf3 (by omega) hyx ?_
              intro b128 o129 hat130 row131
              refine w_x rfl (fun w1 h1 => x_load rfl (ld_cell Try.isAgg3 ((row131.le h1) 0 _ rfl))) ?_
              refine w_x rfl (fun w1 h1 => x_mv rfl) ?_
              refine w_x rfl (fun w1 h1 => x_add rfl rfl (by omega)) ?_
              refine w_index EI rfl (vec_rd (S108.at 1 rfl)) rfl rfl Try.runUnderlying25 Try.sizeOf3 (by omega) hyx ?_
              intro b132 o133 hat134 row135
              refine w_nil ?_
              intro w136 hl137
              have S138 := S108.step hl137
              refine l_storevi (f := 0) S138 1 rfl rfl hat134 rfl rfl Try.sizeOf3 hyx (by decide) rfl ?_
              intro w139 S140 hk141
              refine l_nil ?_
              refine r_inBlock ?_
              refine r_region ?_
              refine l_x rfl (x_mv rfl) ?_
              refine l_x rfl (x_mv rfl) ?_
              refine l_index ES rfl (vec_rd (S140.at 3 rfl)) rfl rfl Try.runUnderlying135 Try.sizeOf126 (by omega) hs ?_
              intro b142 o143 hat144 row145
              refine l_x rfl (x_fieldAddr rfl Try.runUnderlying126 rfl Try.sizeOf3 (by decide)) ?_
              refine l_x rfl (x_load rfl (ld_cell Try.isAgg3 (row145 2 _ rfl))) ?_
              refine l_x rfl (x_as rfl) ?_
              refine l_nil ?_
              exact IHd (s.src.toNat, x'.set s.arc.toNat (y + mu)) _ _ (by dsimp only; exact hsr) ⟨rfl, rfl, rfl, rfl, (congrArg (Value.int .i64) (by omega : s.src = ((s.src.toNat : Nat) : Int))), trivial⟩ ⟨by omega, hsf, hR2.snoc hs hc183, hAg.step hV hs hc183 (by omega) hin hdst (nextp_tight hC hV hw0 hn hat2 hatf2 (by omega) hs hc183).2 hres (fun v t hv ht _ => way_inj hV hn (fun s hs => hC.red s hs) hat2 hatf2 hs hc183 hv ht) hyx (.inr ⟨by simpa using hc194, rfl⟩), (S140.take 4)⟩
          · skip
            have hE : at2 = at_ := ((hend at2 s hR2 hs).resolve_right (fun h => by omega)).1
            subst hE
            refine r_exit rfl ?_
            refine r_seq ?_
            refine r_region ?_
            refine l_x rfl (x_as rfl) ?_
            refine l_x rfl (x_as rfl) ?_
            refine l_nil ?_
            refine r_ret (rs := [.tmp 2, .tmp 3]) [_, _] Try.func121 rfl ⟨rfl, rfl, trivial⟩ ?_
            have hL := hC.led hV hw0 hn hto htd htf htm hat hb12 (much := mu) ⟨by omega, by omega, by omega⟩ hAg
            exact .inr ⟨x', _, _, rfl, S1d.take 2, hL.1, hL.2⟩

end Go.Proofs

/-
  Contracts of functions of the program: each by symbolic execution of its text.
-/
namespace Go.Proofs
open Go Go.Vk Go.Vk.Flow

theorem zcC : Try.zeroCells91 = (carC 0 (.slice none 0 0) (.slice none 0 0) (.slice none 0 0) (fun _ => 0) (fun _ => 0)).toArray := by kernel_rfl
theorem carC_len (N : Int) (va vx vw : Value) (m p : Nat → Int) : (carC N va vx vw m p).length = 2004 := by
  simp [carC, tab_length]
theorem car_fill {N : Int} {va vx vw : Value} (h1 : vx.cells = [vx].toArray) (h2 : vw.cells = [vw].toArray) {pl : List (Nat × Nat)} (hp : pl = [(0, 2), (2, 1), (3, 1), (4, 1000), (1004, 1000)]) :
    Instr.fill (pl.toArray[·]?) (carC 0 (.slice none 0 0) (.slice none 0 0) (.slice none 0 0) (fun _ => 0) (fun _ => 0)).toArray [(0, .agg #[.int .i64 N, va]), (1, vx), (2, vw)] = some (carC N va vx vw (fun _ => 0) fun _ => 0).toArray := by
  subst hp
  have e1 : splice (carC 0 (.slice none 0 0) (.slice none 0 0) (.slice none 0 0) (fun _ => 0) (fun _ => 0)) 0 [.int .i64 N, va] = carC N va (.slice none 0 0) (.slice none 0 0) (fun _ => 0) (fun _ => 0) := rfl
  have e2 : splice (carC N va (.slice none 0 0) (.slice none 0 0) (fun _ => 0) (fun _ => 0)) 2 [vx] = carC N va vx (.slice none 0 0) (fun _ => 0) (fun _ => 0) := rfl
  have e3 : splice (carC N va vx (.slice none 0 0) (fun _ => 0) (fun _ => 0)) 3 [vw] = carC N va vx vw (fun _ => 0) (fun _ => 0) := by simp [splice, carC]
  refine fill_cons (vs := [.int .i64 N, va]) (s := 2) rfl rfl rfl (by rw [carC_len]; decide) ?_
  rw [e1]
  refine fill_cons (s := 1) rfl h1 rfl (by rw [carC_len]; decide) ?_
  rw [e2]
  refine fill_cons (s := 1) rfl h2 rfl (by rw [carC_len]; decide) ?_
  rw [e3]
  exact fill_nil
/-- slices.Max of what nodes have too much. -/
theorem c_Max (bc : Nat) (N : Int) (va vx vw : Value) (mo p : Nat → Int) (w : World) (h : Blk w bc (carC N va vx vw mo p) 91) :
    Cl Try.prog 120 #[.slice (some ⟨bc, 4, none⟩) 1000 1000] w fun v w' => ∃ mx, v = .int .i64 mx ∧ Le w w' ∧ (0 < mx ↔ ∃ u : Nat, u < 1000 ∧ 0 < mo u) := by
  have hz : ∀ j, j < ((List.range 1000).map mo).length → w.cell? ⟨bc, 4 + j, none⟩ = some (.int .i64 (((List.range 1000).map mo).getD j 0)) := by
    intro j hj
    have hj' : j < 1000 := by simpa using hj
    have h1 := h.cell (carm_get (N := N) (va := va) (vx := vx) (vw := vw) (m := mo) (p := p) (o := 4) rfl hj')
    rw [Nat.mul_one] at h1
    rw [h1]
    simp [List.getD_eq_getElem?_getD, hj']
  refine (Try.slices_Max_int bc 4 1000 1000 ((List.range 1000).map mo) w (by omega) (by simp) (by omega) hz).mono fun e w' ⟨he, hw⟩ => ⟨_, he, _, rfl, by subst hw; exact Le.refl _, ?_⟩
  rw [List.take_of_length_le (by simp), maxOf_pos (by simp)]
  constructor
  · rintro ⟨z, hz, hp⟩
    obtain ⟨u, hu, rfl⟩ := List.mem_map.1 hz
    exact ⟨u, List.mem_range.1 hu, hp⟩
  · rintro ⟨u, hu, hp⟩
    exact ⟨mo u, List.mem_map.2 ⟨u, List.mem_range.2 hu, rfl⟩, hp⟩

set_option maxHeartbeats 1000000 in
/-- couchant/flow.best. -/
theorem c_best (N : Int) (va : Value) (arcs : List Arc) (vw : Value) (wl : List Int) (hV : Valid N arcs) (hw0 : Wts arcs wl) (w : World) (hA : Rd EA w va arcs) (Hw : Rd EI w vw wl) :
    Cl Try.prog 71 #[.agg #[.int .i64 N, va], vw] w fun v w' => (∃ bc vx x mo p, v = .tuple #[.pointer (some ⟨bc, 0, none⟩), .agg #[.int .i64 0, .slice none 0 0], .bool true] ∧ Own nob w w' [blk bc (carC N va vx vw mo p) 91, vec EI vx x] ∧ Cn N arcs wl x mo p ∧ ∀ u : Nat, u < 1000 → mo u ≤ 0) ∨
    ∃ A vn ns, v = .tuple #[.pointer none, .agg #[.int .i64 A, vn], .bool false] ∧ New w w' (vec EI vn ns) ∧ Le w w' ∧ hind N arcs A ns = true := by
  have hNx := hV.max
  have hN1 := hV.pos
  have hLx := hV.len
  have hwl := hw0.len
  have hxA := x0_amts hV hw0
  have hxl := hxA.len
  have hfar : far = 1152921504606846976 := rfl
  refine fn_of_run (args := [_, _]) 131 Try.func71 rfl rfl rfl fun cs => ?_
  have S := Own.start (X := nob) w
  refine r_seq ?_
  refine r_region ?_
  refine l_box S rfl rfl ?_
  intro b4 w1 S2 hl3
  refine l_x rfl (x_as rfl) ?_
  refine l_alloc S2 rfl Try.zeroValue43 rfl ?_
  intro b8 w5 S6 hl7
  refine l_x rfl (x_as rfl) ?_
  refine l_nil ?_
  refine r_seq ?_
  refine r_drawE 8 nob Try.mixed (by kernel_rfl) ?_
  intro w9 hl10
  have S11 := S6.step hl10
  refine e_exact 0 _ (by kernel_rfl) rfl rfl (by kernel_rfl) rfl (ex_x rfl (fun w1 h1 => x_load rfl (ld_blks ((S11.step h1).blk 0 rfl) Try.isAgg24 Try.sizeOf24 rfl rfl))) ?_
  refine e_exact 1 _ (by kernel_rfl) rfl rfl (by kernel_rfl) rfl (ex_x rfl (fun w1 h1 => x_fieldAddr rfl Try.runUnderlying24 rfl Try.sizeOf22 (by decide))) ?_
  refine e_exact 2 _ (by kernel_rfl) rfl rfl (by kernel_rfl) rfl (ex_x rfl (fun w1 h1 => x_load rfl (ld_blk ((S11.step h1).blk 0 rfl) Try.isAgg22 rfl))) ?_
  refine e_exact 3 _ (by kernel_rfl) rfl rfl (by kernel_rfl) rfl (ex_x rfl (fun w1 h1 => x_len (hA.le (S11.step h1).le) rfl Try.runUnderlying22)) ?_
  refine e_exact 5 _ (by kernel_rfl) rfl rfl (by kernel_rfl) rfl (ex_x rfl (fun w1 h1 => x_mv rfl)) ?_
  refine e_next [4] (by kernel_rfl) (by kernel_rfl) ⟨⟨_, _, rfl, rfl, ?_⟩, trivial⟩
  refine s_make EI 0 S11 rfl Try.runUnderlying25 Try.sizeOf3 Try.typeInfo3 Try.zeroValue3 rfl rfl rfl rfl (Nat.le_refl _) (by unfold maxLen; omega) (by show _ * 8 ≤ _; omega) ?_
  intro v15 w12 hv16 S13 hl14
  refine ⟨.of_le hl14, ?_⟩
  refine e_exact 6 _ (by kernel_rfl) rfl rfl (by kernel_rfl) rfl (ex_x rfl (fun w1 h1 => x_buildS (ss := [2, 1, 1, 1000, 1000]) Try.zeroValue91 zcC Try.runUnderlying91 ⟨Try.sizeOf24, Try.sizeOf25, Try.sizeOf25, Try.sizeOf89, Try.sizeOf89, trivial⟩ (car_fill (Rd.cells (vec_rd (S13.at 2 rfl))) (Rd.cells (Hw.le S13.le)) rfl))) ?_
  refine e_next [7] (by kernel_rfl) (by kernel_rfl) ⟨⟨_, _, rfl, rfl, ?_⟩, trivial⟩
  refine s_box S13 rfl rfl ?_
  intro b20 w17 S18 hl19
  refine ⟨.of_le hl19, ?_⟩
  refine e_done (by kernel_rfl) ?_
  refine l_x rfl (x_as rfl) ?_
  refine l_nil ?_
  refine r_seq ?_
  refine r_seq ?_
  refine r_region ?_
  refine l_x rfl (x_fieldAddr rfl Try.runUnderlying24 rfl Try.sizeOf22 (by decide)) ?_
  refine l_x rfl (x_load rfl (ld_blk (S18.blk 0 rfl) Try.isAgg22 rfl)) ?_
  refine l_x rfl (x_len (hA.le S18.le) rfl Try.runUnderlying22) ?_
  refine l_x rfl (x_mv rfl) ?_
  refine l_nil ?_
  refine r_block ?_
  refine r_loop (G := Nat) (fun i => arcs.length - i) (fun i => [(2, .pointer (some ⟨b4, 0, none⟩)), (5, .pointer (some ⟨b8, 0, none⟩)), (1, vw), (23, va), (25, .int .i64 i), (24, .int .i64 arcs.length), (7, .pointer (some ⟨b20, 0, none⟩))]) (fun i w' => (i ≤ arcs.length) ∧ (∀ (j : Nat) (a : Arc), j < i → arcs[j]? = some a → a.lo ≤ a.hi) ∧ Own nob w w' [blk b4 [.int .i64 N, va] 24, blk b8 [.int .i64 0, .slice none 0 0] 43, vec EI v15 (pre (x0 arcs wl) 0 i), blk b20 (carC N va v15 vw (ex (arcs.take i) ((x0 arcs wl).take i)) fun _ => 0) 91]) 0 ⟨rfl, rfl, rfl, rfl, rfl, rfl, rfl, trivial⟩ ⟨Nat.zero_le _, fun j a h => absurd h (Nat.not_lt_zero j), (by rw [pre_zero, hxl, ex_zero]; exact S18)⟩ ?_
  rintro i ρ w1a ⟨hi, hle, S1a⟩ IHa
  refine r_seq ?_
  refine r_region ?_
  refine l_x rfl (x_lss rfl rfl) ?_
  refine l_nil ?_
  refine r_seq ?_
  refine r_ifd rfl (fun hc26 => ?_) (fun hc26 => ?_)
  · skip
    obtain ⟨a, ha⟩ : ∃ a, arcs[i]? = some a := ⟨_, List.getElem?_eq_getElem (by omega)⟩
    obtain ⟨q, hq0⟩ : ∃ q, wl[i]? = some q := ⟨_, List.getElem?_eq_getElem (by omega)⟩
    have hok := hV.at ha
    have hil : i < arcs.length := by omega
    refine r_skip ?_
    refine r_seq ?_
    refine r_block ?_
    refine r_seq ?_
    refine r_region ?_
    refine l_x rfl (x_mv rfl) ?_
    refine l_index EA rfl (hA.le S1a.le) rfl rfl Try.runUnderlying22 Try.sizeOf39 (by omega) (by first | assumption | exact List.getElem?_eq_getElem (by omega)) ?_
    intro b21 o22 hat23 row24
    refine l_x rfl (x_load rfl (ld_row Try.isAgg39 Try.sizeOf39 rfl row24)) ?_
    refine l_alloc S1a rfl Try.zeroValue39 rfl ?_
    intro b28 w25 S26 hl27
    refine l_x rfl (x_as rfl) ?_
    refine l_stores S26 4 rfl rfl rfl rfl (EA.one _) Try.sizeOf39 (by first | exact Nat.le_refl _ | simp) (splice_all rfl) ?_
    intro w29 S30 hk31
    refine l_nil ?_
    refine r_seq ?_
    refine r_seq ?_
    refine r_region ?_
    refine l_x rfl (x_fieldAddr rfl Try.runUnderlying39 rfl Try.sizeOf3 (by decide)) ?_
    refine l_x rfl (x_load rfl (ld_blk (S30.blk 4 rfl) Try.isAgg3 rfl)) ?_
    refine l_x rfl (x_fieldAddr rfl Try.runUnderlying39 rfl Try.sizeOf3 (by decide)) ?_
    refine l_x rfl (x_load rfl (ld_blk (S30.blk 4 rfl) Try.isAgg3 rfl)) ?_
    refine l_x rfl (x_gtr rfl rfl) ?_
    refine l_nil ?_
    refine r_ifd rfl (fun hc34 => ?_) (fun hc34 => ?_)
    · skip
      refine r_seq ?_
      refine r_region ?_
      refine l_x rfl (x_mv rfl) ?_
      refine l_x rfl (x_buildS (out := [_, _]) (ss := [1, 1]) Try.zeroValue43 rfl Try.runUnderlying43 ⟨Try.sizeOf3, Try.sizeOf25, trivial⟩ (fill_cons rfl rfl rfl (Nat.le_of_ble_eq_true rfl) fill_nil)) ?_
      refine l_x rfl (x_as rfl) ?_
      refine l_stores (vs := [_, _]) S30 1 rfl rfl rfl rfl (ones_cons rfl (ones_cons rfl ones_nil)) Try.sizeOf43 (by first | exact Nat.le_refl _ | simp) (splice_all rfl) ?_
      intro w32 S33 hk34
      refine l_x rfl (x_as rfl) ?_
      refine l_nil ?_
      refine r_ret (rs := [.tmp 4, .cell 5 43, .tmp 6]) [_, _, _] Try.func71 rfl ⟨rfl, ⟨_, rfl, (ld_blks (S33.blk 1 rfl) Try.isAgg43 Try.sizeOf43 rfl rfl)⟩, rfl, trivial⟩ ?_
      exact .inr ⟨(i : Int), _, [], rfl, New.nilvec .., S33.le, by rw [hind, if_pos (by omega), bad, Int.toNat_natCast, ha]; simp; omega⟩
    · skip
      refine r_skip ?_
      refine r_seq ?_
      refine r_drawR 8 Try.mixed (by kernel_rfl) ?_
      refine w_x rfl (fun w1 h1 => x_mv rfl) ?_
      refine w_x rfl (fun w1 h1 => x_nilCheck rfl) ?_
      refine w_x rfl (fun w1 h1 => x_fieldAddr rfl Try.runUnderlying91 rfl Try.sizeOf25 (by decide)) ?_
      refine w_x rfl (fun w1 h1 => x_load rfl (ld_blk ((S30.step h1).blk 3 rfl) Try.isAgg25 rfl)) ?_
      refine w_x rfl (fun w1 h1 => x_mv rfl) ?_
      refine w_x rfl (fun w1 h1 => x_fieldAddr rfl Try.runUnderlying39 rfl Try.sizeOf3 (by decide)) ?_
      refine w_x rfl (fun w1 h1 => x_load rfl (ld_blk ((S30.step h1).blk 4 rfl) Try.isAgg3 rfl)) ?_
      refine w_index EI rfl (vec_rd (S30.at 2 rfl)) rfl rfl Try.runUnderlying25 Try.sizeOf3 (by omega) (pre_get (by omega)) ?_
      intro b35 o36 hat37 row38
      refine w_nil ?_
      intro w39 hl40
      have S41 := S30.step hl40
      refine l_storevi (f := 0) S41 2 rfl rfl hat37 rfl rfl Try.sizeOf3 (pre_get (by omega)) (by decide) rfl ?_
      intro w42 S43 hk44
      refine l_nil ?_
      refine r_seq ?_
      refine r_seq ?_
      refine r_region ?_
      refine l_x rfl (x_mv rfl) ?_
      refine l_x rfl (x_mv rfl) ?_
      refine l_index EI rfl (Hw.le S43.le) rfl rfl Try.runUnderlying25 Try.sizeOf3 (by omega) (by first | assumption | exact List.getElem?_eq_getElem (by omega)) ?_
      intro b45 o46 hat47 row48
      refine l_x rfl (x_load rfl (ld_cell Try.isAgg3 (row48 0 _ rfl))) ?_
      refine l_x rfl (x_gtr rfl rfl) ?_
      refine l_nil ?_
      refine r_ifd rfl (fun hc49 => ?_) (fun hc49 => ?_)
      · skip
        refine r_drawR 8 Try.mixed (by kernel_rfl) ?_
        refine w_x rfl (fun w1 h1 => x_mv rfl) ?_
        refine w_x rfl (fun w1 h1 => x_nilCheck rfl) ?_
        refine w_x rfl (fun w1 h1 => x_fieldAddr rfl Try.runUnderlying91 rfl Try.sizeOf25 (by decide)) ?_
        refine w_x rfl (fun w1 h1 => x_load rfl (ld_blk ((S43.step h1).blk 3 rfl) Try.isAgg25 rfl)) ?_
        refine w_x rfl (fun w1 h1 => x_mv rfl) ?_
        refine w_x rfl (fun w1 h1 => x_fieldAddr rfl Try.runUnderlying39 rfl Try.sizeOf3 (by decide)) ?_
        refine w_x rfl (fun w1 h1 => x_load rfl (ld_blk ((S43.step h1).blk 4 rfl) Try.isAgg3 rfl)) ?_
        refine w_index EI rfl (vec_rd (S43.at 2 rfl)) rfl rfl Try.runUnderlying25 Try.sizeOf3 (by omega) (List.getElem?_set_self (by rw [pre_length (by omega)]; omega)) ?_
        intro b49 o50 hat51 row52
        refine w_nil ?_
        intro w53 hl54
        have S55 := S43.step hl54
        refine l_storevi (f := 0) S55 2 rfl rfl hat51 rfl rfl Try.sizeOf3 (List.getElem?_set_self (by rw [pre_length (by omega)]; omega)) (by decide) rfl ?_
        intro w56 S57 hk58
        refine l_nil ?_
        refine r_seq ?_
        have e : ((pre (x0 arcs wl) 0 i).set ((i : Nat) : Int).toNat a.lo).set ((i : Nat) : Int).toNat a.hi = pre (x0 arcs wl) 0 (i + 1) := by rw [List.set_set]; exact pre_step (by rw [x0_get arcs wl i a q ha hq0, if_pos hc49])
        have Sz := S57
        rw [e] at Sz
        obtain ⟨z, hz⟩ : ∃ z, (x0 arcs wl)[i]? = some z := ⟨_, x0_get arcs wl i a q ha hq0⟩
        have hzb := hxA.at hz
        have hb1 := ex_bd_take hV hxA i a.dst.toNat
        have hzg : (pre (x0 arcs wl) 0 (i + 1))[i]? = some z := pre_last hz
        refine r_drawR 18 Try.mixed (by kernel_rfl) ?_
        refine w_x rfl (fun w1 h1 => x_mv rfl) ?_
        refine w_x rfl (fun w1 h1 => x_fieldAddr rfl Try.runUnderlying39 rfl Try.sizeOf3 (by decide)) ?_
        refine w_x rfl (fun w1 h1 => x_load rfl (ld_blk ((Sz.step h1).blk 4 rfl) Try.isAgg3 rfl)) ?_
        refine w_x rfl (fun w1 h1 => x_nilCheck rfl) ?_
        refine w_x rfl (fun w1 h1 => x_fieldAddr rfl Try.runUnderlying91 rfl Try.sizeOf89 (by decide)) ?_
        refine w_x rfl (fun w1 h1 => x_indexAddr_array rfl rfl Try.runUnderlying89 Try.sizeOf3 (by omega)) ?_
        refine w_x rfl (fun w1 h1 => x_load rfl (ld_blk ((Sz.step h1).blk 3 rfl) Try.isAgg3 (carm_get rfl (by omega)))) ?_
        refine w_x rfl (fun w1 h1 => x_mv rfl) ?_
        refine w_x rfl (fun w1 h1 => x_nilCheck rfl) ?_
        refine w_x rfl (fun w1 h1 => x_fieldAddr rfl Try.runUnderlying91 rfl Try.sizeOf25 (by decide)) ?_
        refine w_x rfl (fun w1 h1 => x_load rfl (ld_blk ((Sz.step h1).blk 3 rfl) Try.isAgg25 rfl)) ?_
        refine w_x rfl (fun w1 h1 => x_mv rfl) ?_
        refine w_index EI rfl (vec_rd (Sz.at 2 rfl)) rfl rfl Try.runUnderlying25 Try.sizeOf3 (by omega) hzg ?_
        intro b59 o60 hat61 row62
        refine w_x rfl (fun w1 h1 => x_load rfl (ld_cell Try.isAgg3 ((row62.le h1) 0 _ rfl))) ?_
        refine w_x rfl (fun w1 h1 => x_add rfl rfl (by omega)) ?_
        refine w_x rfl (fun w1 h1 => x_nilCheck rfl) ?_
        refine w_x rfl (fun w1 h1 => x_fieldAddr rfl Try.runUnderlying91 rfl Try.sizeOf89 (by decide)) ?_
        refine w_x rfl (fun w1 h1 => x_indexAddr_array rfl rfl Try.runUnderlying89 Try.sizeOf3 (by omega)) ?_
        refine w_nil ?_
        intro w63 hl64
        have S65 := Sz.step hl64
        refine l_storeq S65 3 rfl rfl rfl rfl rfl Try.sizeOf3 (carm_lt rfl (by omega)) (carm_set rfl (by omega)) ?_
        intro w66 S67 hk68
        refine l_nil ?_
        have hb2 := ex_bd_take hV hxA i a.src.toNat
        have hb3 : -5000000000 ≤ upf (ex (arcs.take i) ((x0 arcs wl).take i)) a.dst.toNat (ex (arcs.take i) ((x0 arcs wl).take i) a.dst.toNat + z) a.src.toNat ∧ upf (ex (arcs.take i) ((x0 arcs wl).take i)) a.dst.toNat (ex (arcs.take i) ((x0 arcs wl).take i) a.dst.toNat + z) a.src.toNat ≤ 5000000000 := by
          unfold upf; split <;> omega
        refine r_drawR 18 Try.mixed (by kernel_rfl) ?_
        refine w_x rfl (fun w1 h1 => x_mv rfl) ?_
        refine w_x rfl (fun w1 h1 => x_fieldAddr rfl Try.runUnderlying39 rfl Try.sizeOf3 (by decide)) ?_
        refine w_x rfl (fun w1 h1 => x_load rfl (ld_blk ((S67.step h1).blk 4 rfl) Try.isAgg3 rfl)) ?_
        refine w_x rfl (fun w1 h1 => x_nilCheck rfl) ?_
        refine w_x rfl (fun w1 h1 => x_fieldAddr rfl Try.runUnderlying91 rfl Try.sizeOf89 (by decide)) ?_
        refine w_x rfl (fun w1 h1 => x_indexAddr_array rfl rfl Try.runUnderlying89 Try.sizeOf3 (by omega)) ?_
        refine w_x rfl (fun w1 h1 => x_load rfl (ld_blk ((S67.step h1).blk 3 rfl) Try.isAgg3 (carm_get rfl (by omega)))) ?_
        refine w_x rfl (fun w1 h1 => x_mv rfl) ?_
        refine w_x rfl (fun w1 h1 => x_nilCheck rfl) ?_
        refine w_x rfl (fun w1 h1 => x_fieldAddr rfl Try.runUnderlying91 rfl Try.sizeOf25 (by decide)) ?_
        refine w_x rfl (fun w1 h1 => x_load rfl (ld_blk ((S67.step h1).blk 3 rfl) Try.isAgg25 rfl)) ?_
        refine w_x rfl (fun w1 h1 => x_mv rfl) ?_
        refine w_index EI rfl (vec_rd (S67.at 2 rfl)) rfl rfl Try.runUnderlying25 Try.sizeOf3 (by omega) hzg ?_
        intro b69 o70 hat71 row72
        refine w_x rfl (fun w1 h1 => x_load rfl (ld_cell Try.isAgg3 ((row72.le h1) 0 _ rfl))) ?_
        refine w_x rfl (fun w1 h1 => x_sub rfl rfl (by omega)) ?_
        refine w_x rfl (fun w1 h1 => x_nilCheck rfl) ?_
        refine w_x rfl (fun w1 h1 => x_fieldAddr rfl Try.runUnderlying91 rfl Try.sizeOf89 (by decide)) ?_
        refine w_x rfl (fun w1 h1 => x_indexAddr_array rfl rfl Try.runUnderlying89 Try.sizeOf3 (by omega)) ?_
        refine w_nil ?_
        intro w73 hl74
        have S75 := S67.step hl74
        refine l_storeq S75 3 rfl rfl rfl rfl rfl Try.sizeOf3 (carm_lt rfl (by omega)) (carm_set rfl (by omega)) ?_
        intro w76 S77 hk78
        refine l_nil ?_
        refine r_inBlock ?_
        refine r_region ?_
        refine l_x rfl (x_add rfl rfl (by omega)) ?_
        refine l_x rfl (x_mv rfl) ?_
        refine l_nil ?_
        exact IHa (i + 1) _ _ (by omega) ⟨rfl, rfl, rfl, rfl, rfl, rfl, rfl, trivial⟩ ⟨by omega, le_step hle ha (by omega), (by rw [← ex_step ha hz (by omega) (by omega) rfl]; exact S77.take 4)⟩
      · skip
        refine r_skip ?_
        refine r_seq ?_
        have e : (pre (x0 arcs wl) 0 i).set ((i : Nat) : Int).toNat a.lo = pre (x0 arcs wl) 0 (i + 1) := pre_step (by rw [x0_get arcs wl i a q ha hq0, if_neg hc49])
        have Sz := S43
        rw [e] at Sz
        obtain ⟨z, hz⟩ : ∃ z, (x0 arcs wl)[i]? = some z := ⟨_, x0_get arcs wl i a q ha hq0⟩
        have hzb := hxA.at hz
        have hb1 := ex_bd_take hV hxA i a.dst.toNat
        have hzg : (pre (x0 arcs wl) 0 (i + 1))[i]? = some z := pre_last hz
        refine r_drawR 18 Try.mixed (by kernel_rfl) ?_
        refine w_x rfl (fun w1 h1 => x_mv rfl) ?_
        refine w_x rfl (fun w1 h1 => x_fieldAddr rfl Try.runUnderlying39 rfl Try.sizeOf3 (by decide)) ?_
        refine w_x rfl (fun w1 h1 => x_load rfl (ld_blk ((Sz.step h1).blk 4 rfl) Try.isAgg3 rfl)) ?_
        refine w_x rfl (fun w1 h1 => x_nilCheck rfl) ?_
        refine w_x rfl (fun w1 h1 => x_fieldAddr rfl Try.runUnderlying91 rfl Try.sizeOf89 (by decide)) ?_
        refine w_x rfl (fun w1 h1 => x_indexAddr_array rfl rfl Try.runUnderlying89 Try.sizeOf3 (by omega)) ?_
        refine w_x rfl (fun w1 h1 => x_load rfl (ld_blk ((Sz.step h1).blk 3 rfl) Try.isAgg3 (carm_get rfl (by omega)))) ?_
        refine w_x rfl (fun w1 h1 => x_mv rfl) ?_
        refine w_x rfl (fun w1 h1 => x_nilCheck rfl) ?_
        refine w_x rfl (fun w1 h1 => x_fieldAddr rfl Try.runUnderlying91 rfl Try.sizeOf25 (by decide)) ?_
        refine w_x rfl (fun w1 h1 => x_load rfl (ld_blk ((Sz.step h1).blk 3 rfl) Try.isAgg25 rfl)) ?_
        refine w_x rfl (fun w1 h1 => x_mv rfl) ?_
        refine w_index EI rfl (vec_rd (Sz.at 2 rfl)) rfl rfl Try.runUnderlying25 Try.sizeOf3 (by omega) hzg ?_
        intro b79 o80 hat81 row82
        refine w_x rfl (fun w1 h1 => x_load rfl (ld_cell Try.isAgg3 ((row82.le h1) 0 _ rfl))) ?_
        refine w_x rfl (fun w1 h1 => x_add rfl rfl (by omega)) ?_
        refine w_x rfl (fun w1 h1 => x_nilCheck rfl) ?_
        refine w_x rfl (fun w1 h1 => x_fieldAddr rfl Try.runUnderlying91 rfl Try.sizeOf89 (by decide)) ?_
        refine w_x rfl (fun w1 h1 => x_indexAddr_array rfl rfl Try.runUnderlying89 Try.sizeOf3 (by omega)) ?_
        refine w_nil ?_
        intro w83 hl84
        have S85 := Sz.step hl84
        refine l_storeq S85 3 rfl rfl rfl rfl rfl Try.sizeOf3 (carm_lt rfl (by omega)) (carm_set rfl (by omega)) ?_
        intro w86 S87 hk88
        refine l_nil ?_
        have hb2 := ex_bd_take hV hxA i a.src.toNat
        have hb3 : -5000000000 ≤ upf (ex (arcs.take i) ((x0 arcs wl).take i)) a.dst.toNat (ex (arcs.take i) ((x0 arcs wl).take i) a.dst.toNat + z) a.src.toNat ∧ upf (ex (arcs.take i) ((x0 arcs wl).take i)) a.dst.toNat (ex (arcs.take i) ((x0 arcs wl).take i) a.dst.toNat + z) a.src.toNat ≤ 5000000000 := by
          unfold upf; split <;> omega
        refine r_drawR 18 Try.mixed (by kernel_rfl) ?_
        refine w_x rfl (fun w1 h1 => x_mv rfl) ?_
        refine w_x rfl (fun w1 h1 => x_fieldAddr rfl Try.runUnderlying39 rfl Try.sizeOf3 (by decide)) ?_
        refine w_x rfl (fun w1 h1 => x_load rfl (ld_blk ((S87.step h1).blk 4 rfl) Try.isAgg3 rfl)) ?_
        refine w_x rfl (fun w1 h1 => x_nilCheck rfl) ?_
        refine w_x rfl (fun w1 h1 => x_fieldAddr rfl Try.runUnderlying91 rfl Try.sizeOf89 (by decide)) ?_
        refine w_x rfl (fun w1 h1 => x_indexAddr_array rfl rfl Try.runUnderlying89 Try.sizeOf3 (by omega)) ?_
        refine w_x rfl (fun w1 h1 => x_load rfl (ld_blk ((S87.step h1).blk 3 rfl) Try.isAgg3 (carm_get rfl (by omega)))) ?_
        refine w_x rfl (fun w1 h1 => x_mv rfl) ?_
        refine w_x rfl (fun w1 h1 => x_nilCheck rfl) ?_
        refine w_x rfl (fun w1 h1 => x_fieldAddr rfl Try.runUnderlying91 rfl Try.sizeOf25 (by decide)) ?_
        refine w_x rfl (fun w1 h1 => x_load rfl (ld_blk ((S87.step h1).blk 3 rfl) Try.isAgg25 rfl)) ?_
        refine w_x rfl (fun w1 h1 => x_mv rfl) ?_
        refine w_index EI rfl (vec_rd (S87.at 2 rfl)) rfl rfl Try.runUnderlying25 Try.sizeOf3 (by omega) hzg ?_
        intro b89 o90 hat91 row92
        refine w_x rfl (fun w1 h1 => x_load rfl (ld_cell Try.isAgg3 ((row92.le h1) 0 _ rfl))) ?_
        refine w_x rfl (fun w1 h1 => x_sub rfl rfl (by omega)) ?_
        refine w_x rfl (fun w1 h1 => x_nilCheck rfl) ?_
        refine w_x rfl (fun w1 h1 => x_fieldAddr rfl Try.runUnderlying91 rfl Try.sizeOf89 (by decide)) ?_
        refine w_x rfl (fun w1 h1 => x_indexAddr_array rfl rfl Try.runUnderlying89 Try.sizeOf3 (by omega)) ?_
        refine w_nil ?_
        intro w93 hl94
        have S95 := S87.step hl94
        refine l_storeq S95 3 rfl rfl rfl rfl rfl Try.sizeOf3 (carm_lt rfl (by omega)) (carm_set rfl (by omega)) ?_
        intro w96 S97 hk98
        refine l_nil ?_
        refine r_inBlock ?_
        refine r_region ?_
        refine l_x rfl (x_add rfl rfl (by omega)) ?_
        refine l_x rfl (x_mv rfl) ?_
        refine l_nil ?_
        exact IHa (i + 1) _ _ (by omega) ⟨rfl, rfl, rfl, rfl, rfl, rfl, rfl, trivial⟩ ⟨by omega, le_step hle ha (by omega), (by rw [← ex_step ha hz (by omega) (by omega) rfl]; exact S97.take 4)⟩
  · skip
    have hie : i = arcs.length := by omega
    subst hie
    have hpf : pre (x0 arcs wl) 0 arcs.length = x0 arcs wl := by rw [← hxl]; exact pre_full
    rw [hpf, List.take_length, List.take_of_length_le (by omega)] at S1a
    refine r_exit rfl ?_
    refine r_seq ?_
    refine r_block ?_
    refine r_loop (G := List Int × (Nat → Int) × (Nat → Int)) (fun ⟨x, mo, p⟩ => tot mo) (fun ⟨x, mo, p⟩ => [(2, .pointer (some ⟨b4, 0, none⟩)), (5, .pointer (some ⟨b8, 0, none⟩)), (7, .pointer (some ⟨b20, 0, none⟩))]) (fun ⟨x, mo, p⟩ w' => (Cn N arcs wl x mo p) ∧ Own nob w w' [blk b4 [.int .i64 N, va] 24, blk b8 [.int .i64 0, .slice none 0 0] 43, blk b20 (carC N va v15 vw mo p) 91, vec EI v15 x]) (x0 arcs wl, ex arcs (x0 arcs wl), fun _ => 0) ⟨rfl, rfl, rfl, trivial⟩ ⟨Cn.start hw0 fun a ha => by obtain ⟨j, hj⟩ := List.getElem?_of_mem ha; exact hle j a (List.getElem?_eq_some_iff.1 hj).1 hj, (S1a.pick [0, 1, 3, 2] (by decide) rfl)⟩ ?_
    rintro ⟨x, mo, p⟩ ρ w1b ⟨hC, S1b⟩ IHb
    refine r_seq ?_
    refine r_seq ?_
    refine r_region ?_
    refine l_x rfl (x_mv rfl) ?_
    refine l_x rfl (x_nilCheck rfl) ?_
    refine l_x rfl (x_fieldAddr rfl Try.runUnderlying91 rfl Try.sizeOf89 (by decide)) ?_
    refine l_x rfl (x_sliceall rfl Try.runUnderlying89 Try.sizeOf3) ?_
    refine l_call [] [] [_] rfl rfl Try.call120 rfl (c_Max _ N va _ vw mo p _ (S1b.blk 2 rfl)) ?_
    rintro _ w99 ⟨mx, rfl, hml, hmx⟩
    have S100 := S1b.step hml
    refine l_x rfl (x_gtr rfl rfl) ?_
    refine l_nil ?_
    refine r_ifd rfl (fun hc100 => ?_) (fun hc100 => ?_)
    · skip
      refine r_skip ?_
      refine r_block ?_
      refine r_seq ?_
      refine r_region ?_
      refine l_x rfl (x_mv rfl) ?_
      have S101 := Own.pack (A := [_, _]) (L := [_, _]) S100
      refine l_call [] [] [_] rfl rfl Try.call121 rfl (c_lead N va arcs v15 x vw wl mo p hV hw0 hC b20 _ w (fun b hb => (S101.bd 2 _ rfl b hb).2.resolve_right id) hA Hw _ ((S101.lend 2 rfl).open) S100.le) ?_
      rintro _ w102 (⟨vc, cost, last, rk, rfl, hO, hn, hno⟩ | ⟨x', mo', p', rfl, hO, hC', ht⟩)
      · skip
        have S104 := Own.unpack (A := [_, _]) (L := [_, _, _]) (S101.back 2 rfl hO.close)
        refine l_x rfl (x_mv rfl) ?_
        refine l_x rfl (x_extract rfl rfl) ?_
        refine l_x rfl (x_extract rfl rfl) ?_
        refine l_x rfl (x_as rfl) ?_
        refine l_x rfl (x_as rfl) ?_
        refine l_nil ?_
        refine r_seq ?_
        refine r_seq ?_
        refine r_region ?_
        refine l_x rfl (x_mv rfl) ?_
        refine l_nil ?_
        refine r_false rfl ?_
        refine r_skip ?_
        refine r_seq ?_
        refine r_region ?_
        refine l_x rfl (x_buildS (out := [_, _]) (ss := [1, 1]) Try.zeroValue43 rfl Try.runUnderlying43 ⟨Try.sizeOf3, Try.sizeOf25, trivial⟩ (fill_cons rfl rfl rfl (Nat.le_of_ble_eq_true rfl) fill_nil)) ?_
        refine l_alloc S104 rfl Try.zeroValue43 rfl ?_
        intro b108 w105 S106 hl107
        refine l_stores (vs := [_, _]) S106 5 rfl rfl rfl rfl (ones_cons rfl (ones_cons rfl ones_nil)) Try.sizeOf43 (by first | exact Nat.le_refl _ | simp) (splice_all rfl) ?_
        intro w109 S110 hk111
        refine l_nil ?_
        refine r_seq ?_
        refine r_seq ?_
        have Sn := S110.nilvec (E := EI)
        refine r_region ?_
        refine l_x rfl (x_mv rfl) ?_
        refine l_x rfl (x_nilCheck rfl) ?_
        refine l_x rfl (x_fieldAddr rfl Try.runUnderlying91 rfl Try.sizeOf24 (by decide)) ?_
        refine l_x rfl (x_fieldAddr rfl Try.runUnderlying24 rfl Try.sizeOf3 (by decide)) ?_
        refine l_x rfl (x_load rfl (ld_blk (Sn.blk 2 rfl) Try.isAgg3 rfl)) ?_
        refine l_x rfl (x_mv rfl) ?_
        refine l_nil ?_
        refine r_block ?_
        refine r_loop (G := Nat × Value) (fun ⟨i, vn⟩ => N.toNat - i) (fun ⟨i, vn⟩ => [(2, .pointer (some ⟨b4, 0, none⟩)), (5, .pointer (some ⟨b8, 0, none⟩)), (7, .pointer (some ⟨b20, 0, none⟩)), (11, vc), (12, .pointer (some ⟨b108, 0, none⟩)), (113, .int .i64 i), (112, .int .i64 N)]) (fun ⟨i, vn⟩ w' => (i ≤ N.toNat) ∧ Own nob w w' [blk b4 [.int .i64 N, va] 24, blk b8 [.int .i64 0, .slice none 0 0] 43, blk b20 (carC N va v15 vw mo p) 91, vec EI v15 x, vec EI vc cost, blk b108 [.int .i64 (-1), vn] 43, vec EI vn (und cost i)]) (0, .slice none 0 0) ⟨rfl, rfl, rfl, rfl, rfl, rfl, rfl, trivial⟩ ⟨Nat.zero_le _, (Sn.take 7)⟩ ?_
        rintro ⟨i, vn⟩ ρ w1c ⟨hi, S1c⟩ IHc
        refine r_seq ?_
        refine r_region ?_
        refine l_x rfl (x_lss rfl rfl) ?_
        refine l_nil ?_
        refine r_seq ?_
        refine r_ifd rfl (fun hc114 => ?_) (fun hc114 => ?_)
        · skip
          have hil : i < N.toNat := by omega
          refine r_skip ?_
          refine r_seq ?_
          refine r_block ?_
          refine r_seq ?_
          refine r_region ?_
          refine l_x rfl (x_mv rfl) ?_
          refine l_x rfl (x_as rfl) ?_
          refine l_nil ?_
          refine r_seq ?_
          refine r_region ?_
          refine l_x rfl (x_mv rfl) ?_
          refine l_x rfl (x_mv rfl) ?_
          refine l_index EI rfl (vec_rd (S1c.at 4 rfl)) rfl rfl Try.runUnderlying25 Try.sizeOf3 (by omega) (nth_get (by have := hn.lc; omega)) ?_
          intro b112 o113 hat114 row115
          refine l_x rfl (x_load rfl (ld_cell Try.isAgg3 (row115 0 _ rfl))) ?_
          refine l_x rfl (x_geq rfl rfl) ?_
          refine l_nil ?_
          refine r_ifd rfl (fun hc120 => ?_) (fun hc120 => ?_)
          · skip
            refine r_region ?_
            refine l_x rfl (x_fieldAddr rfl Try.runUnderlying43 rfl Try.sizeOf25 (by decide)) ?_
            refine l_x rfl (x_load rfl (ld_blk (S1c.blk 5 rfl) Try.isAgg25 rfl)) ?_
            refine l_x rfl (x_mv rfl) ?_
            refine l_buildSlice EI [_] S1c rfl Try.runUnderlying25 Try.sizeOf3 Try.zeroValue3 rfl ⟨rfl, rfl, trivial⟩ (Nat.le_of_ble_eq_true rfl) ?_
            intro v119 w116 S117 hl118
            refine l_append EI S117 6 rfl rfl rfl rfl (vec_rd (S117.at 7 rfl)) Try.underlying25 info3 rfl rfl rfl (by have := und_len cost i; unfold maxLen; rw [List.length_singleton]; omega) (by have := und_len cost i; rw [List.length_singleton]; show _ * 8 ≤ _; omega) ?_
            intro v123 w120 S121 hk122 hv124
            refine l_x rfl (x_fieldAddr rfl Try.runUnderlying43 rfl Try.sizeOf25 (by decide)) ?_
            refine l_storeq (c' := [_, _]) (v := v123) S121 5 rfl rfl rfl rfl (Rd.one (vec_rd (S121.at 6 rfl))) Try.sizeOf25 (by simp) rfl ?_
            intro w125 S126 hk127
            refine l_nil ?_
            refine r_inBlock ?_
            refine r_region ?_
            refine l_x rfl (x_add rfl rfl (by omega)) ?_
            refine l_x rfl (x_mv rfl) ?_
            refine l_nil ?_
            exact IHc (i + 1, v123) _ _ (by dsimp only; omega) ⟨rfl, rfl, rfl, rfl, rfl, rfl, rfl, trivial⟩ ⟨by omega, (by rw [und_in (i := i) (Int.not_lt.2 hc120)]; exact S126.take 7)⟩
          · skip
            refine r_skip ?_
            refine r_inBlock ?_
            refine r_region ?_
            refine l_x rfl (x_add rfl rfl (by omega)) ?_
            refine l_x rfl (x_mv rfl) ?_
            refine l_nil ?_
            exact IHc (i + 1, vn) _ _ (by dsimp only; omega) ⟨rfl, rfl, rfl, rfl, rfl, rfl, rfl, trivial⟩ ⟨by omega, (by rw [und_out (i := i) (Int.not_le.1 hc120)]; exact S1c.take 7)⟩
        · skip
          have hie : i = N.toNat := by omega
          subst hie
          refine r_exit rfl ?_
          refine r_seq ?_
          refine r_drawR 2 Try.mixed (by kernel_rfl) ?_
          refine w_x rfl (fun w1 h1 => x_load rfl (ld_blks ((S1c.step h1).blk 5 rfl) Try.isAgg43 Try.sizeOf43 rfl rfl)) ?_
          refine w_x rfl (fun w1 h1 => x_as rfl) ?_
          refine w_nil ?_
          intro w128 hl129
          have S130 := S1c.step hl129
          refine l_stores (vs := [_, _]) S130 1 rfl rfl rfl rfl (ones_cons rfl (ones_cons (Rd.one (vec_rd (S130.at 6 rfl))) ones_nil)) Try.sizeOf43 (by first | exact Nat.le_refl _ | simp) (splice_all rfl) ?_
          intro w131 S132 hk133
          refine l_x rfl (x_as rfl) ?_
          refine l_nil ?_
          refine r_ret (rs := [.tmp 4, .cell 5 43, .tmp 6]) [_, _, _] Try.func71 rfl ⟨rfl, ⟨_, rfl, (ld_blks (S132.blk 1 rfl) Try.isAgg43 Try.sizeOf43 rfl rfl)⟩, rfl, trivial⟩ ?_
          exact .inr ⟨-1, _, _, rfl, S132.new 6 rfl, S132.le, obst hC hV hw0 hn hno (hmx.1 hc100)⟩
      · skip
        have S134 := Own.unpack (A := [_, _]) (L := [_, _]) (S101.back 2 rfl hO.close)
        refine l_x rfl (x_mv rfl) ?_
        refine l_x rfl (x_extract rfl rfl) ?_
        refine l_x rfl (x_extract rfl rfl) ?_
        refine l_x rfl (x_as rfl) ?_
        refine l_x rfl (x_as rfl) ?_
        refine l_nil ?_
        refine r_seq ?_
        refine r_seq ?_
        refine r_region ?_
        refine l_x rfl (x_mv rfl) ?_
        refine l_nil ?_
        refine r_true rfl ?_
        refine r_exit rfl ?_
        exact IHb (x', mo', p') _ _ (by dsimp only; exact ht) ⟨rfl, rfl, rfl, trivial⟩ ⟨hC', S134⟩
    · skip
      refine r_exit rfl ?_
      refine r_seq ?_
      refine r_region ?_
      refine l_x rfl (x_mv rfl) ?_
      refine l_x rfl (x_buildS (out := [_, _]) (ss := [1, 1]) Try.zeroValue43 rfl Try.runUnderlying43 ⟨Try.sizeOf3, Try.sizeOf25, trivial⟩ fill_nil) ?_
      refine l_x rfl (x_as rfl) ?_
      refine l_stores (vs := [_, _]) S100 1 rfl rfl rfl rfl (ones_cons rfl (ones_cons rfl ones_nil)) Try.sizeOf43 (by first | exact Nat.le_refl _ | simp) (splice_all rfl) ?_
      intro w135 S136 hk137
      refine l_x rfl (x_as rfl) ?_
      refine l_nil ?_
      refine r_ret (rs := [.tmp 4, .cell 5 43, .tmp 6]) [_, _, _] Try.func71 rfl ⟨rfl, ⟨_, rfl, (ld_blks (S136.blk 1 rfl) Try.isAgg43 Try.sizeOf43 rfl rfl)⟩, rfl, trivial⟩ ?_
      exact .inl ⟨_, _, x, mo, p, rfl, S136.pick [2, 3] (by decide) rfl, hC, fun u hu => by rcases Int.lt_or_le 0 (mo u) with h | h; exact absurd (hmx.2 ⟨u, hu, h⟩) hc100; exact h⟩

end Go.Proofs

/-
  Contracts of functions of the program: each by symbolic execution of its text.
-/
namespace Go.Proofs
open Go Go.Vk Go.Vk.Flow

set_option maxHeartbeats 1000000 in
/-- (*couchant/flow.carried).shown. -/
theorem c_shown (N : Int) (va : Value) (arcs : List Arc) (vx : Value) (x : List Int) (vw : Value) (wl : List Int) (mo p : Nat → Int) (hV : Valid N arcs) (hw0 : Wts arcs wl) (hC : Cn N arcs wl x mo p) (bc : Nat) (X : Nat → Prop) (u : World) (hX : ∀ b, X b → u.heap.size ≤ b) (hA : Rd EA u va arcs) (Hw : Rd EI u vw wl) (w : World) (S : Own X w w [blk bc (carC N va vx vw mo p) 91, vec EI vx x]) (h0 : Le u w) :
    Cl Try.prog 73 #[.pointer (some ⟨bc, 0, none⟩)] w fun v w' => ∃ q, Own X w w' [blk bc (carC N va vx vw mo P0) 91, vec EI vx x, vec EI v q] ∧ Pts N q ∧ Slack q arcs x wl := by
  have hNx := hV.max
  have hN1 := hV.pos
  have hLx := hV.len
  have hxA := hC.amts hV
  refine fn_of_run (args := [_]) 55 Try.func73 rfl rfl rfl fun cs => ?_
  refine r_seq ?_
  refine r_region ?_
  refine l_x rfl (x_as rfl) ?_
  refine l_nil ?_
  refine r_seq ?_
  refine r_region ?_
  refine l_x rfl (x_mv rfl) ?_
  refine l_x rfl (x_buildz Try.zeroValue89 zcT Try.runUnderlying89 Try.sizeOf3) ?_
  refine l_x rfl (x_nilCheck rfl) ?_
  refine l_x rfl (x_fieldAddr rfl Try.runUnderlying91 rfl Try.sizeOf89 (by decide)) ?_
  refine l_stores (vs := tab 1000 P0) S 0 rfl rfl rfl rfl tab_one (fun w => by rw [tab_length]; exact Try.sizeOf89 w) (by rw [tab_length, carC_len]; decide) carp_splice ?_
  intro w1 S2 hk3
  refine l_nil ?_
  refine r_seq ?_
  refine r_region ?_
  refine l_alloc S2 rfl Try.zeroValue89 zcT ?_
  intro b7 w4 S5 hl6
  refine l_nil ?_
  refine r_seq ?_
  refine r_seq ?_
  refine r_region ?_
  refine l_alloc S5 rfl Try.zeroValue4 rfl ?_
  intro b11 w8 S9 hl10
  refine l_storeq (c' := [_]) S9 3 rfl rfl rfl rfl rfl Try.sizeOf4 (by simp) rfl ?_
  intro w12 S13 hk14
  refine l_nil ?_
  refine r_block ?_
  refine r_loopD (G := (Nat → Int) × Bool × Nat × List Nat) (fun ⟨c, m, bm, Ds⟩ => mu c m) (fun ⟨c, m, bm, Ds⟩ => [(0, .pointer (some ⟨bc, 0, none⟩)), (3, .pointer (some ⟨b7, 0, none⟩)), (4, .pointer (some ⟨bm, 0, none⟩))]) (fun ⟨c, m, bm, Ds⟩ w' => (Sh p c) ∧ (m = false → Still (stps P0 0 arcs x wl) c) ∧ Own X w w' [blk bc (carC N va vx vw mo P0) 91, vec EI vx x, blk b7 (tab 1000 c) 89, blk bm [.bool m] 4, marksR Ds]) (fun ⟨c, m, bm, Ds⟩ => Ds.map Go.Vk.mark ++ []) (fun _ => 0, true, b11, []) ⟨rfl, rfl, rfl, trivial⟩ ⟨Sh.start hC.pb, (fun h => (by cases h)), (S13.nopack)⟩ rfl ?_
  rintro ⟨c, m, bm, Ds⟩ ρ w1a ⟨hSh, hSt, S1a⟩ IHa
  refine r_seq ?_
  refine r_seq ?_
  refine r_region ?_
  refine l_x rfl (x_load rfl (ld_blk (S1a.blk 3 rfl) Try.isAgg4 rfl)) ?_
  refine l_nil ?_
  refine r_if rfl (fun hc13 => ?_) (fun hc13 => ?_)
  · skip
    refine r_skip ?_
    refine r_seq ?_
    refine r_block ?_
    refine r_seq ?_
    refine r_region ?_
    refine l_storeq (c' := [_]) S1a 3 rfl rfl rfl rfl rfl Try.sizeOf4 (by simp) rfl ?_
    intro w15 S16 hk17
    refine l_nil ?_
    refine r_seq ?_
    refine r_region ?_
    refine l_x rfl (x_mv rfl) ?_
    refine l_x rfl (x_func rfl rfl) ?_
    refine l_nil ?_
    refine r_block ?_
    refine r_rangeFunc [_] [] S16 rfl rfl Try.call122 ?_
    intro D18 l19 w20 S21 hl22
    have S23 : Own _ _ _ [_, _, _, _, _, _, _] := S21.pick [0, 1, 4, 2, 3, 5, 6] (by decide) rfl
    have S24 := Own.pack (A := [_, _, _]) (L := [_, _, _, _]) S23
    refine (c_steps N va arcs vx x vw wl mo P0 hV hxA hw0 (fun v => by simp only [P0]; omega) bc _ _ _ (fun t r => ∃ c' m', r = pack [blk b7 (tab 1000 c') 89, blk bm [.bool m'] 4, _, _] ∧ Rd1 p c t c' m') (fun t r w1 hR S' => ⟨(S24.back 3 rfl S').blk 0 rfl, hA.le ((S24.back 3 rfl S').old h0 hX), vec_rd ((S24.back 3 rfl S').at 1 rfl), Hw.le ((S24.back 3 rfl S').old h0 hX)⟩) ?_ _ ⟨_, _, rfl, Rd1.start hSh⟩ _ (S24.lend 3 rfl)).mono ?_
    · skip
      rintro t _ s w1 ⟨c', m', rfl, hRd⟩ ⟨s', hin'⟩ hS
      have S25 := hS.open
      have hin : s ∈ stps P0 0 arcs x wl := by rw [hin']; simp
      have hsb := stps_ok hV hin
      have hs0 := step0 hC.red hw0 hin
      have hlo := hRd.1.lo s.src.toNat
      have hhi := hRd.1.hi s.src.toNat
      have hnn := hRd.1.nn s.src.toNat
      refine yl_of_run (S25.obj 3 rfl) rfl (fun c cs => ?_)
      refine r_region ?_
      refine l_alloc S25 rfl Try.zeroValue126 rfl ?_
      intro b29 w26 S27 hl28
      refine l_stores S27 4 rfl rfl rfl rfl (ES.one _) Try.sizeOf126 (by first | exact Nat.le_refl _ | simp) (splice_all rfl) ?_
      intro w30 S31 hk32
      refine l_nil ?_
      refine r_beginRound S31 3 rfl rfl ?_
      intro w33 S34 hk35
      refine r_block ?_
      refine r_seq ?_
      refine r_drawR 8 Try.mixed (by kernel_rfl) ?_
      refine w_x rfl (fun w1 h1 => x_fieldAddr rfl Try.runUnderlying126 rfl Try.sizeOf3 (by decide)) ?_
      refine w_x rfl (fun w1 h1 => x_load rfl (ld_blk ((S34.step h1).blk 4 rfl) Try.isAgg3 rfl)) ?_
      refine w_x rfl (fun w1 h1 => x_indexAddr_array rfl rfl Try.runUnderlying89 Try.sizeOf3 (by omega)) ?_
      refine w_x rfl (fun w1 h1 => x_load rfl (ld_blk ((S34.step h1).blk 0 rfl) Try.isAgg3 (tabs_get rfl (by omega)))) ?_
      refine w_x rfl (fun w1 h1 => x_fieldAddr rfl Try.runUnderlying126 rfl Try.sizeOf3 (by decide)) ?_
      refine w_x rfl (fun w1 h1 => x_load rfl (ld_blk ((S34.step h1).blk 4 rfl) Try.isAgg3 rfl)) ?_
      refine w_x rfl (fun w1 h1 => x_add rfl rfl (by omega)) ?_
      refine w_x rfl (fun w1 h1 => x_as rfl) ?_
      refine w_nil ?_
      intro w36 hl37
      have S38 := S34.step hl37
      refine l_nil ?_
      refine r_seq ?_
      refine r_region ?_
      refine l_x rfl (x_mv rfl) ?_
      refine l_x rfl (x_fieldAddr rfl Try.runUnderlying126 rfl Try.sizeOf3 (by decide)) ?_
      refine l_x rfl (x_load rfl (ld_blk (S38.blk 4 rfl) Try.isAgg3 rfl)) ?_
      refine l_x rfl (x_indexAddr_array rfl rfl Try.runUnderlying89 Try.sizeOf3 (by omega)) ?_
      refine l_x rfl (x_load rfl (ld_blk (S38.blk 0 rfl) Try.isAgg3 (tabs_get rfl (by omega)))) ?_
      refine l_x rfl (x_lss rfl rfl) ?_
      refine l_nil ?_
      refine r_ifd rfl (fun hc29 => ?_) (fun hc29 => ?_)
      · skip
        refine r_seq ?_
        refine r_region ?_
        refine l_x rfl (x_fieldAddr rfl Try.runUnderlying126 rfl Try.sizeOf3 (by decide)) ?_
        refine l_x rfl (x_load rfl (ld_blk (S38.blk 4 rfl) Try.isAgg3 rfl)) ?_
        refine l_x rfl (x_mv rfl) ?_
        refine l_x rfl (x_indexAddr_array rfl rfl Try.runUnderlying89 Try.sizeOf3 (by omega)) ?_
        refine l_storeq S38 0 rfl rfl rfl rfl rfl Try.sizeOf3 (tabs_lt rfl (by omega)) (tabs_set rfl (by omega)) ?_
        intro w39 S40 hk41
        refine l_nil ?_
        refine r_region ?_
        refine l_storeq (c' := [_]) S40 1 rfl rfl rfl rfl rfl Try.sizeOf4 (by simp) rfl ?_
        intro w42 S43 hk44
        refine l_nil ?_
        refine r_inBlock ?_
        refine r_roundEnd S43 3 rfl ?_
        intro w45 S46
        exact ⟨_, rfl, ⟨_, _, rfl, hRd.relax hC.red hw0 hV hin hc29⟩, (S46.take 4).close⟩
      · skip
        refine r_skip ?_
        refine r_inBlock ?_
        refine r_roundEnd S38 3 rfl ?_
        intro w47 S48
        exact ⟨_, rfl, ⟨_, _, rfl, hRd.keep hc29⟩, (S48.take 4).close⟩
    rintro _ w49 ⟨_, ⟨c', m', rfl, hRd⟩, hback50⟩
    have S51 := Own.unpack (A := [_, _, _]) (L := [_, _, _, _]) (S24.back 3 rfl hback50)
    refine r_endRange S51 6 rfl rfl ?_
    intro w52 S53 hk54
    refine r_inBlock ?_
    refine r_inBlock ?_
    refine r_seq ?_
    refine r_region ?_
    refine l_x rfl (x_load rfl (ld_blk (S53.blk 4 rfl) Try.isAgg4 rfl)) ?_
    refine l_nil ?_
    refine r_region ?_
    refine l_alloc S53 rfl Try.zeroValue4 rfl ?_
    intro b58 w55 S56 hl57
    refine l_storeq (c' := [_]) S56 7 rfl rfl rfl rfl rfl Try.sizeOf4 (by simp) rfl ?_
    intro w59 S60 hk61
    refine l_nil ?_
    exact IHa (c', m', b58, D18 :: Ds) _ _ _ (by dsimp only; rw [hc13]; exact hRd.less) ⟨rfl, rfl, rfl, trivial⟩ ⟨hRd.1, hRd.still, ((S60.pick [0, 1, 3, 7, 5, 2] (by decide) rfl).mcons (A := [_, _, _, _]))⟩ rfl
  · skip
    refine r_exit rfl ?_
    refine r_seq ?_
    refine r_region ?_
    refine l_x rfl (x_mv rfl) ?_
    refine l_x rfl (x_nilCheck rfl) ?_
    refine l_x rfl (x_fieldAddr rfl Try.runUnderlying91 rfl Try.sizeOf24 (by decide)) ?_
    refine l_x rfl (x_fieldAddr rfl Try.runUnderlying24 rfl Try.sizeOf3 (by decide)) ?_
    refine l_x rfl (x_load rfl (ld_blk (S1a.blk 0 rfl) Try.isAgg3 rfl)) ?_
    refine l_make EI 0 S1a rfl Try.runUnderlying25 Try.sizeOf3 Try.typeInfo3 Try.zeroValue3 rfl rfl (congrArg (Value.int .i64) (Int.toNat_of_nonneg (by omega)).symm) (congrArg (Value.int .i64) (Int.toNat_of_nonneg (by omega)).symm) (Nat.le_refl _) (by unfold maxLen; omega) (by show _ * 8 ≤ _; omega) ?_
    intro v65 w62 hv66 S63 hl64
    refine l_x rfl (x_as rfl) ?_
    refine l_nil ?_
    refine r_seq ?_
    refine r_seq ?_
    refine r_region ?_
    refine l_x rfl (x_mv rfl) ?_
    refine l_x rfl (x_len (vec_rd (S63.at 5 rfl)) rfl Try.runUnderlying25) ?_
    refine l_x rfl (x_mv rfl) ?_
    refine l_nil ?_
    refine r_block ?_
    refine r_loop (G := Nat) (fun i => N.toNat - i) (fun i => [(3, .pointer (some ⟨b7, 0, none⟩)), (7, v65), (43, .int .i64 i), (42, .int .i64 N)]) (fun i w' => (i ≤ N.toNat) ∧ Own X w w' [blk bc (carC N va vx vw mo P0) 91, vec EI vx x, blk b7 (tab 1000 c) 89, blk bm [.bool m] 4, marksR Ds, vec EI v65 (pre (outp N c) 0 i)]) 0 ⟨rfl, rfl, rfl, (congrArg (Value.int .i64) (by rw [List.length_replicate]; omega)), trivial⟩ ⟨Nat.zero_le _, (by rw [pre_zero, outp_len]; exact S63)⟩ ?_
    rintro i ρ w1b ⟨hi, S1b⟩ IHb
    refine r_seq ?_
    refine r_region ?_
    refine l_x rfl (x_lss rfl rfl) ?_
    refine l_nil ?_
    refine r_seq ?_
    refine r_ifd rfl (fun hc44 => ?_) (fun hc44 => ?_)
    · skip
      have hil : i < N.toNat := by omega
      have hlo := hSh.lo ((i : Nat) : Int).toNat
      have hhi := hSh.hi ((i : Nat) : Int).toNat
      have hnn := hSh.nn ((i : Nat) : Int).toNat
      refine r_skip ?_
      refine r_seq ?_
      refine r_block ?_
      refine r_seq ?_
      refine r_region ?_
      refine l_x rfl (x_mv rfl) ?_
      refine l_x rfl (x_as rfl) ?_
      refine l_nil ?_
      refine r_region ?_
      refine l_x rfl (x_mv rfl) ?_
      refine l_x rfl (x_mv rfl) ?_
      refine l_x rfl (x_mv rfl) ?_
      refine l_x rfl (x_indexAddr_array rfl rfl Try.runUnderlying89 Try.sizeOf3 (by omega)) ?_
      refine l_x rfl (x_load rfl (ld_blk (S1b.blk 2 rfl) Try.isAgg3 (tabs_get rfl (by omega)))) ?_
      refine l_x rfl (x_neg rfl (by omega)) ?_
      refine l_index EI rfl (vec_rd (S1b.at 5 rfl)) rfl rfl Try.runUnderlying25 Try.sizeOf3 (by omega) (pre_get (by rw [outp_len]; omega)) ?_
      intro b67 o68 hat69 row70
      refine l_storevi (f := 0) S1b 5 rfl rfl hat69 rfl rfl Try.sizeOf3 (pre_get (by rw [outp_len]; omega)) (by decide) rfl ?_
      intro w71 S72 hk73
      refine l_nil ?_
      refine r_inBlock ?_
      refine r_region ?_
      refine l_x rfl (x_add rfl rfl (by omega)) ?_
      refine l_x rfl (x_mv rfl) ?_
      refine l_nil ?_
      exact IHb (i + 1) _ _ (by omega) ⟨rfl, rfl, rfl, rfl, trivial⟩ ⟨by omega, (by rw [← pre_step (outp_get (by omega))]; exact S72)⟩
    · skip
      have hie : i = N.toNat := by omega
      subst hie
      refine r_exit rfl ?_
      refine r_seq ?_
      refine r_region ?_
      refine l_x rfl (x_mv rfl) ?_
      refine l_x rfl (x_as rfl) ?_
      refine l_nil ?_
      refine r_retL rfl ?_
      refine leave_marks (A := [_, _, _, _, _]) Ds (S1b.pick [0, 1, 2, 3, 5, 4] (by decide) rfl) ?_
      intro w74 S75
      refine leave_done (rs := [.tmp 2]) [_] Try.func73 rfl ⟨rfl, trivial⟩ ?_
      exact ⟨_, by have hS := S75; rw [show pre (outp N c) 0 N.toNat = outp N c from by rw [← outp_len N c]; exact pre_full] at hS; exact hS.pick [0, 1, 4] (by decide) rfl, hSh.pts hN1, (hSt hc13).slack hV hC.bds⟩

end Go.Proofs

/-
  Contracts of functions of the program: each by symbolic execution of its text.
-/
namespace Go.Proofs
open Go Go.Vk Go.Vk.Flow

/-- couchant/flow.Some. -/
theorem c_Some (N : Int) (va : Value) (arcs : List Arc) (w : World) (hA : Rd EA w va arcs) :
    Cl Try.prog 43 #[.agg #[.int .i64 N, va]] w fun v w' => ∃ vx x e, v = .tuple #[vx, .int .i64 e] ∧ New w w' (vec EI vx x) ∧ Le w w' ∧ SomeR N arcs x e := by
  refine fn_of_run (args := [_]) 29 Try.func43 rfl rfl rfl fun cs => ?_
  have S := Own.start (X := nob) w
  refine r_seq ?_
  refine r_region ?_
  refine l_box S rfl rfl ?_
  intro b4 w1 S2 hl3
  refine l_x rfl (x_as rfl) ?_
  refine l_x rfl (x_as rfl) ?_
  refine l_nil ?_
  refine r_seq ?_
  refine r_seq ?_
  refine r_region ?_
  refine l_x rfl (x_load rfl (ld_blks (S2.blk 0 rfl) Try.isAgg24 Try.sizeOf24 rfl rfl)) ?_
  refine l_call [] [] [_] rfl rfl Try.call36 rfl (c_Check N va arcs _ (hA.le S2.le)) ?_
  rintro _ w5 ⟨rfl, hl7⟩
  have S6 := S2.step hl7
  refine l_x rfl (x_as rfl) ?_
  refine l_nil ?_
  refine r_seq ?_
  refine r_region ?_
  refine l_x rfl (x_mv rfl) ?_
  refine l_x rfl (x_neq rfl rfl) ?_
  refine l_nil ?_
  refine r_ifd rfl (fun hc11 => ?_) (fun hc11 => ?_)
  · skip
    refine r_seq ?_
    refine r_region ?_
    refine l_x rfl (x_mv rfl) ?_
    refine l_x rfl (x_as rfl) ?_
    refine l_x rfl (x_as rfl) ?_
    refine l_nil ?_
    refine r_ret (rs := [.tmp 2, .tmp 3]) [_, _] Try.func43 rfl ⟨rfl, rfl, trivial⟩ ?_
    exact ⟨_, [], _, rfl, New.nilvec .., S6.le, .bad hc11⟩
  · skip
    have hV := chk_zero.1 (Decidable.not_not.1 hc11)
    have hLx := hV.len
    refine r_skip ?_
    refine r_seq ?_
    refine r_drawE 14 (yng w5) Try.mixed (by kernel_rfl) ?_
    intro w8 hl9
    have S10 := S6.step hl9
    have hy11 : Keep (yng w5) w5 w8 := .of_le hl9
    refine e_exact 0 _ (by kernel_rfl) rfl rfl (by kernel_rfl) rfl (ex_x rfl (fun w1 h1 => x_load rfl (ld_blks ((S6.yng (hy11.trans h1)).blk 0 rfl) Try.isAgg24 Try.sizeOf24 rfl rfl))) ?_
    refine e_exact 1 _ (by kernel_rfl) rfl rfl (by kernel_rfl) rfl (ex_x rfl (fun w1 h1 => x_fieldAddr rfl Try.runUnderlying24 rfl Try.sizeOf22 (by decide))) ?_
    refine e_exact 2 _ (by kernel_rfl) rfl rfl (by kernel_rfl) rfl (ex_x rfl (fun w1 h1 => x_load rfl (ld_blk ((S6.yng (hy11.trans h1)).blk 0 rfl) Try.isAgg22 rfl))) ?_
    refine e_exact 3 _ (by kernel_rfl) rfl rfl (by kernel_rfl) rfl (ex_x rfl (fun w1 h1 => x_len (hA.le (S6.yng (hy11.trans h1)).le) rfl Try.runUnderlying22)) ?_
    refine e_next [4, 10] (by kernel_rfl) (by kernel_rfl) ⟨⟨_, _, rfl, rfl, ?_⟩, ⟨_, _, rfl, rfl, ?_⟩, trivial⟩
    · skip
      refine s_make EI 0 S10 rfl Try.runUnderlying25 Try.sizeOf3 Try.typeInfo3 Try.zeroValue3 rfl rfl rfl rfl (Nat.le_refl _) (by unfold maxLen; omega) (by show _ * 8 ≤ _; omega) ?_
      intro v15 w12 hv16 S13 hl14
      refine ⟨.of_le hl14, ?_⟩
      have hy17 : Keep (yng w5) w5 w12 := hy11.trans (Keep.of_le hl14)
      refine e_next [5, 10] (by kernel_rfl) (by kernel_rfl) ⟨⟨_, _, rfl, rfl, ?_⟩, ⟨_, _, rfl, rfl, ?_⟩, trivial⟩
      · skip
        refine s_callf [] [] [_, _] rfl rfl Try.call71 rfl ((c_best N va arcs _ _ hV (zero_wts arcs) _ (hA.le S13.le) (vec_rd (S13.at 1 rfl))).mono ?_)
        rintro _ w18 (⟨bc1918, vx1918, x1918, mo1918, p1918, rfl, hO1918, hC1918, hmo1918⟩ | ⟨A1918, vn1918, ns1918, rfl, hN1918, hl1918, hh1918⟩)
        · skip
          have S19 := S13.join hO1918
          refine ⟨.of_le hO1918.le, ?_⟩
          have hy20 : Keep (yng w5) w5 w18 := hy17.trans (Keep.of_le hO1918.le)
          refine e_exact 6 _ (by kernel_rfl) rfl rfl (by kernel_rfl) rfl (ex_x rfl (fun w1 h1 => x_mv rfl)) ?_
          refine e_exact 7 _ (by kernel_rfl) rfl rfl (by kernel_rfl) rfl (ex_x rfl (fun w1 h1 => x_extract rfl rfl)) ?_
          refine e_exact 8 _ (by kernel_rfl) rfl rfl (by kernel_rfl) rfl (ex_x rfl (fun w1 h1 => x_extract rfl rfl)) ?_
          refine e_exact 9 _ (by kernel_rfl) rfl rfl (by kernel_rfl) rfl (ex_x rfl (fun w1 h1 => x_extract rfl rfl)) ?_
          refine e_next [10] (by kernel_rfl) (by kernel_rfl) ⟨⟨_, _, rfl, rfl, ?_⟩, trivial⟩
          refine s_allocY S19 rfl Try.zeroValue43 rfl ?_
          intro b24 w21 S22 hl23 hb25
          refine ⟨.of_le hl23, ?_⟩
          have hy26 : Keep (yng w5) w5 w21 := hy20.trans (Keep.of_le hl23)
          refine e_exact 11 _ (by kernel_rfl) rfl rfl (by kernel_rfl) rfl (ex_x rfl (fun w1 h1 => x_as rfl)) ?_
          refine e_next [12] (by kernel_rfl) (by kernel_rfl) ⟨⟨_, _, rfl, rfl, ?_⟩, trivial⟩
          refine s_stores (vs := [_, _]) S22 4 rfl rfl rfl rfl (ones_cons rfl (ones_cons rfl ones_nil)) Try.sizeOf43 (by first | exact Nat.le_refl _ | simp) (splice_all rfl) ?_
          intro w27 S28 hk29
          refine ⟨(yng_blk hy20 hb25 hk29), ?_⟩
          have hy30 : Keep (yng w5) w5 w27 := hy26.trans ((yng_blk hy20 hb25 hk29))
          refine e_exact 13 _ (by kernel_rfl) rfl rfl (by kernel_rfl) rfl (ex_x rfl (fun w1 h1 => x_as rfl)) ?_
          refine e_done (by kernel_rfl) ?_
          refine l_nil ?_
          refine r_seq ?_
          refine r_seq ?_
          refine r_region ?_
          refine l_x rfl (x_mv rfl) ?_
          refine l_x rfl (x_not rfl) ?_
          refine l_nil ?_
          refine r_false rfl ?_
          refine r_skip ?_
          refine r_seq ?_
          refine r_region ?_
          refine l_x rfl (x_mv rfl) ?_
          refine l_x rfl (x_nilCheck rfl) ?_
          refine l_x rfl (x_fieldAddr rfl Try.runUnderlying91 rfl Try.sizeOf25 (by decide)) ?_
          refine l_x rfl (x_load rfl (ld_blk (S28.blk 2 rfl) Try.isAgg25 rfl)) ?_
          refine l_x rfl (x_as rfl) ?_
          refine l_x rfl (x_as rfl) ?_
          refine l_nil ?_
          refine r_ret (rs := [.tmp 2, .tmp 3]) [_, _] Try.func43 rfl ⟨rfl, rfl, trivial⟩ ?_
          exact ⟨_, _, _, rfl, S28.new 3 rfl, S28.le, .yes hV (hC1918.circ hV hmo1918)⟩
        · skip
          have S31 := S13.add hl1918 hN1918
          refine ⟨.of_le hl1918, ?_⟩
          have hy32 : Keep (yng w5) w5 w18 := hy17.trans (Keep.of_le hl1918)
          refine e_exact 6 _ (by kernel_rfl) rfl rfl (by kernel_rfl) rfl (ex_x rfl (fun w1 h1 => x_mv rfl)) ?_
          refine e_exact 7 _ (by kernel_rfl) rfl rfl (by kernel_rfl) rfl (ex_x rfl (fun w1 h1 => x_extract rfl rfl)) ?_
          refine e_exact 8 _ (by kernel_rfl) rfl rfl (by kernel_rfl) rfl (ex_x rfl (fun w1 h1 => x_extract rfl rfl)) ?_
          refine e_exact 9 _ (by kernel_rfl) rfl rfl (by kernel_rfl) rfl (ex_x rfl (fun w1 h1 => x_extract rfl rfl)) ?_
          refine e_next [10] (by kernel_rfl) (by kernel_rfl) ⟨⟨_, _, rfl, rfl, ?_⟩, trivial⟩
          refine s_allocY S31 rfl Try.zeroValue43 rfl ?_
          intro b36 w33 S34 hl35 hb37
          refine ⟨.of_le hl35, ?_⟩
          have hy38 : Keep (yng w5) w5 w33 := hy32.trans (Keep.of_le hl35)
          refine e_exact 11 _ (by kernel_rfl) rfl rfl (by kernel_rfl) rfl (ex_x rfl (fun w1 h1 => x_as rfl)) ?_
          refine e_next [12] (by kernel_rfl) (by kernel_rfl) ⟨⟨_, _, rfl, rfl, ?_⟩, trivial⟩
          refine s_stores (vs := [_, _]) S34 3 rfl rfl rfl rfl (ones_cons rfl (ones_cons (Rd.one (vec_rd (S34.at 2 rfl))) ones_nil)) Try.sizeOf43 (by first | exact Nat.le_refl _ | simp) (splice_all rfl) ?_
          intro w39 S40 hk41
          refine ⟨(yng_blk hy32 hb37 hk41), ?_⟩
          have hy42 : Keep (yng w5) w5 w39 := hy38.trans ((yng_blk hy32 hb37 hk41))
          refine e_exact 13 _ (by kernel_rfl) rfl rfl (by kernel_rfl) rfl (ex_x rfl (fun w1 h1 => x_as rfl)) ?_
          refine e_done (by kernel_rfl) ?_
          refine l_nil ?_
          refine r_seq ?_
          refine r_seq ?_
          refine r_region ?_
          refine l_x rfl (x_mv rfl) ?_
          refine l_x rfl (x_not rfl) ?_
          refine l_nil ?_
          refine r_true rfl ?_
          refine r_seq ?_
          refine r_region ?_
          refine l_x rfl (x_as rfl) ?_
          refine l_x rfl (x_as rfl) ?_
          refine l_nil ?_
          refine r_ret (rs := [.tmp 2, .tmp 3]) [_, _] Try.func43 rfl ⟨rfl, rfl, trivial⟩ ?_
          exact ⟨_, [], _, rfl, New.nilvec .., S40.le, .no hV ⟨_, _, hh1918⟩⟩
      · skip
        refine s_allocY S13 rfl Try.zeroValue43 rfl ?_
        intro b46 w43 S44 hl45 hb47
        refine ⟨.of_le hl45, ?_⟩
        have hy48 : Keep (yng w5) w5 w43 := hy17.trans (Keep.of_le hl45)
        refine e_next [5] (by kernel_rfl) (by kernel_rfl) ⟨⟨_, _, rfl, rfl, ?_⟩, trivial⟩
        refine s_callf [] [] [_, _] rfl rfl Try.call71 rfl ((c_best N va arcs _ _ hV (zero_wts arcs) _ (hA.le S44.le) (vec_rd (S44.at 1 rfl))).mono ?_)
        rintro _ w49 (⟨bc1949, vx1949, x1949, mo1949, p1949, rfl, hO1949, hC1949, hmo1949⟩ | ⟨A1949, vn1949, ns1949, rfl, hN1949, hl1949, hh1949⟩)
        · skip
          have S50 := S44.join hO1949
          refine ⟨.of_le hO1949.le, ?_⟩
          have hy51 : Keep (yng w5) w5 w49 := hy48.trans (Keep.of_le hO1949.le)
          refine e_exact 6 _ (by kernel_rfl) rfl rfl (by kernel_rfl) rfl (ex_x rfl (fun w1 h1 => x_mv rfl)) ?_
          refine e_exact 7 _ (by kernel_rfl) rfl rfl (by kernel_rfl) rfl (ex_x rfl (fun w1 h1 => x_extract rfl rfl)) ?_
          refine e_exact 8 _ (by kernel_rfl) rfl rfl (by kernel_rfl) rfl (ex_x rfl (fun w1 h1 => x_extract rfl rfl)) ?_
          refine e_exact 9 _ (by kernel_rfl) rfl rfl (by kernel_rfl) rfl (ex_x rfl (fun w1 h1 => x_extract rfl rfl)) ?_
          refine e_exact 11 _ (by kernel_rfl) rfl rfl (by kernel_rfl) rfl (ex_x rfl (fun w1 h1 => x_as rfl)) ?_
          refine e_next [12] (by kernel_rfl) (by kernel_rfl) ⟨⟨_, _, rfl, rfl, ?_⟩, trivial⟩
          refine s_stores (vs := [_, _]) S50 2 rfl rfl rfl rfl (ones_cons rfl (ones_cons rfl ones_nil)) Try.sizeOf43 (by first | exact Nat.le_refl _ | simp) (splice_all rfl) ?_
          intro w52 S53 hk54
          refine ⟨(yng_blk hy17 hb47 hk54), ?_⟩
          have hy55 : Keep (yng w5) w5 w52 := hy51.trans ((yng_blk hy17 hb47 hk54))
          refine e_exact 13 _ (by kernel_rfl) rfl rfl (by kernel_rfl) rfl (ex_x rfl (fun w1 h1 => x_as rfl)) ?_
          refine e_done (by kernel_rfl) ?_
          refine l_nil ?_
          refine r_seq ?_
          refine r_seq ?_
          refine r_region ?_
          refine l_x rfl (x_mv rfl) ?_
          refine l_x rfl (x_not rfl) ?_
          refine l_nil ?_
          refine r_false rfl ?_
          refine r_skip ?_
          refine r_seq ?_
          refine r_region ?_
          refine l_x rfl (x_mv rfl) ?_
          refine l_x rfl (x_nilCheck rfl) ?_
          refine l_x rfl (x_fieldAddr rfl Try.runUnderlying91 rfl Try.sizeOf25 (by decide)) ?_
          refine l_x rfl (x_load rfl (ld_blk (S53.blk 3 rfl) Try.isAgg25 rfl)) ?_
          refine l_x rfl (x_as rfl) ?_
          refine l_x rfl (x_as rfl) ?_
          refine l_nil ?_
          refine r_ret (rs := [.tmp 2, .tmp 3]) [_, _] Try.func43 rfl ⟨rfl, rfl, trivial⟩ ?_
          exact ⟨_, _, _, rfl, S53.new 4 rfl, S53.le, .yes hV (hC1949.circ hV hmo1949)⟩
        · skip
          have S56 := S44.add hl1949 hN1949
          refine ⟨.of_le hl1949, ?_⟩
          have hy57 : Keep (yng w5) w5 w49 := hy48.trans (Keep.of_le hl1949)
          refine e_exact 6 _ (by kernel_rfl) rfl rfl (by kernel_rfl) rfl (ex_x rfl (fun w1 h1 => x_mv rfl)) ?_
          refine e_exact 7 _ (by kernel_rfl) rfl rfl (by kernel_rfl) rfl (ex_x rfl (fun w1 h1 => x_extract rfl rfl)) ?_
          refine e_exact 8 _ (by kernel_rfl) rfl rfl (by kernel_rfl) rfl (ex_x rfl (fun w1 h1 => x_extract rfl rfl)) ?_
          refine e_exact 9 _ (by kernel_rfl) rfl rfl (by kernel_rfl) rfl (ex_x rfl (fun w1 h1 => x_extract rfl rfl)) ?_
          refine e_exact 11 _ (by kernel_rfl) rfl rfl (by kernel_rfl) rfl (ex_x rfl (fun w1 h1 => x_as rfl)) ?_
          refine e_next [12] (by kernel_rfl) (by kernel_rfl) ⟨⟨_, _, rfl, rfl, ?_⟩, trivial⟩
          refine s_stores (vs := [_, _]) S56 2 rfl rfl rfl rfl (ones_cons rfl (ones_cons (Rd.one (vec_rd (S56.at 3 rfl))) ones_nil)) Try.sizeOf43 (by first | exact Nat.le_refl _ | simp) (splice_all rfl) ?_
          intro w58 S59 hk60
          refine ⟨(yng_blk hy17 hb47 hk60), ?_⟩
          have hy61 : Keep (yng w5) w5 w58 := hy57.trans ((yng_blk hy17 hb47 hk60))
          refine e_exact 13 _ (by kernel_rfl) rfl rfl (by kernel_rfl) rfl (ex_x rfl (fun w1 h1 => x_as rfl)) ?_
          refine e_done (by kernel_rfl) ?_
          refine l_nil ?_
          refine r_seq ?_
          refine r_seq ?_
          refine r_region ?_
          refine l_x rfl (x_mv rfl) ?_
          refine l_x rfl (x_not rfl) ?_
          refine l_nil ?_
          refine r_true rfl ?_
          refine r_seq ?_
          refine r_region ?_
          refine l_x rfl (x_as rfl) ?_
          refine l_x rfl (x_as rfl) ?_
          refine l_nil ?_
          refine r_ret (rs := [.tmp 2, .tmp 3]) [_, _] Try.func43 rfl ⟨rfl, rfl, trivial⟩ ?_
          exact ⟨_, [], _, rfl, New.nilvec .., S59.le, .no hV ⟨_, _, hh1949⟩⟩
    · skip
      refine s_allocY S10 rfl Try.zeroValue43 rfl ?_
      intro b65 w62 S63 hl64 hb66
      refine ⟨.of_le hl64, ?_⟩
      have hy67 : Keep (yng w5) w5 w62 := hy11.trans (Keep.of_le hl64)
      refine e_next [4] (by kernel_rfl) (by kernel_rfl) ⟨⟨_, _, rfl, rfl, ?_⟩, trivial⟩
      refine s_make EI 0 S63 rfl Try.runUnderlying25 Try.sizeOf3 Try.typeInfo3 Try.zeroValue3 rfl rfl rfl rfl (Nat.le_refl _) (by unfold maxLen; omega) (by show _ * 8 ≤ _; omega) ?_
      intro v71 w68 hv72 S69 hl70
      refine ⟨.of_le hl70, ?_⟩
      have hy73 : Keep (yng w5) w5 w68 := hy67.trans (Keep.of_le hl70)
      refine e_next [5] (by kernel_rfl) (by kernel_rfl) ⟨⟨_, _, rfl, rfl, ?_⟩, trivial⟩
      refine s_callf [] [] [_, _] rfl rfl Try.call71 rfl ((c_best N va arcs _ _ hV (zero_wts arcs) _ (hA.le S69.le) (vec_rd (S69.at 2 rfl))).mono ?_)
      rintro _ w74 (⟨bc1974, vx1974, x1974, mo1974, p1974, rfl, hO1974, hC1974, hmo1974⟩ | ⟨A1974, vn1974, ns1974, rfl, hN1974, hl1974, hh1974⟩)
      · skip
        have S75 := S69.join hO1974
        refine ⟨.of_le hO1974.le, ?_⟩
        have hy76 : Keep (yng w5) w5 w74 := hy73.trans (Keep.of_le hO1974.le)
        refine e_exact 6 _ (by kernel_rfl) rfl rfl (by kernel_rfl) rfl (ex_x rfl (fun w1 h1 => x_mv rfl)) ?_
        refine e_exact 7 _ (by kernel_rfl) rfl rfl (by kernel_rfl) rfl (ex_x rfl (fun w1 h1 => x_extract rfl rfl)) ?_
        refine e_exact 8 _ (by kernel_rfl) rfl rfl (by kernel_rfl) rfl (ex_x rfl (fun w1 h1 => x_extract rfl rfl)) ?_
        refine e_exact 9 _ (by kernel_rfl) rfl rfl (by kernel_rfl) rfl (ex_x rfl (fun w1 h1 => x_extract rfl rfl)) ?_
        refine e_exact 11 _ (by kernel_rfl) rfl rfl (by kernel_rfl) rfl (ex_x rfl (fun w1 h1 => x_as rfl)) ?_
        refine e_next [12] (by kernel_rfl) (by kernel_rfl) ⟨⟨_, _, rfl, rfl, ?_⟩, trivial⟩
        refine s_stores (vs := [_, _]) S75 1 rfl rfl rfl rfl (ones_cons rfl (ones_cons rfl ones_nil)) Try.sizeOf43 (by first | exact Nat.le_refl _ | simp) (splice_all rfl) ?_
        intro w77 S78 hk79
        refine ⟨(yng_blk hy11 hb66 hk79), ?_⟩
        have hy80 : Keep (yng w5) w5 w77 := hy76.trans ((yng_blk hy11 hb66 hk79))
        refine e_exact 13 _ (by kernel_rfl) rfl rfl (by kernel_rfl) rfl (ex_x rfl (fun w1 h1 => x_as rfl)) ?_
        refine e_done (by kernel_rfl) ?_
        refine l_nil ?_
        refine r_seq ?_
        refine r_seq ?_
        refine r_region ?_
        refine l_x rfl (x_mv rfl) ?_
        refine l_x rfl (x_not rfl) ?_
        refine l_nil ?_
        refine r_false rfl ?_
        refine r_skip ?_
        refine r_seq ?_
        refine r_region ?_
        refine l_x rfl (x_mv rfl) ?_
        refine l_x rfl (x_nilCheck rfl) ?_
        refine l_x rfl (x_fieldAddr rfl Try.runUnderlying91 rfl Try.sizeOf25 (by decide)) ?_
        refine l_x rfl (x_load rfl (ld_blk (S78.blk 3 rfl) Try.isAgg25 rfl)) ?_
        refine l_x rfl (x_as rfl) ?_
        refine l_x rfl (x_as rfl) ?_
        refine l_nil ?_
        refine r_ret (rs := [.tmp 2, .tmp 3]) [_, _] Try.func43 rfl ⟨rfl, rfl, trivial⟩ ?_
        exact ⟨_, _, _, rfl, S78.new 4 rfl, S78.le, .yes hV (hC1974.circ hV hmo1974)⟩
      · skip
        have S81 := S69.add hl1974 hN1974
        refine ⟨.of_le hl1974, ?_⟩
        have hy82 : Keep (yng w5) w5 w74 := hy73.trans (Keep.of_le hl1974)
        refine e_exact 6 _ (by kernel_rfl) rfl rfl (by kernel_rfl) rfl (ex_x rfl (fun w1 h1 => x_mv rfl)) ?_
        refine e_exact 7 _ (by kernel_rfl) rfl rfl (by kernel_rfl) rfl (ex_x rfl (fun w1 h1 => x_extract rfl rfl)) ?_
        refine e_exact 8 _ (by kernel_rfl) rfl rfl (by kernel_rfl) rfl (ex_x rfl (fun w1 h1 => x_extract rfl rfl)) ?_
        refine e_exact 9 _ (by kernel_rfl) rfl rfl (by kernel_rfl) rfl (ex_x rfl (fun w1 h1 => x_extract rfl rfl)) ?_
        refine e_exact 11 _ (by kernel_rfl) rfl rfl (by kernel_rfl) rfl (ex_x rfl (fun w1 h1 => x_as rfl)) ?_
        refine e_next [12] (by kernel_rfl) (by kernel_rfl) ⟨⟨_, _, rfl, rfl, ?_⟩, trivial⟩
        refine s_stores (vs := [_, _]) S81 1 rfl rfl rfl rfl (ones_cons rfl (ones_cons (Rd.one (vec_rd (S81.at 3 rfl))) ones_nil)) Try.sizeOf43 (by first | exact Nat.le_refl _ | simp) (splice_all rfl) ?_
        intro w83 S84 hk85
        refine ⟨(yng_blk hy11 hb66 hk85), ?_⟩
        have hy86 : Keep (yng w5) w5 w83 := hy82.trans ((yng_blk hy11 hb66 hk85))
        refine e_exact 13 _ (by kernel_rfl) rfl rfl (by kernel_rfl) rfl (ex_x rfl (fun w1 h1 => x_as rfl)) ?_
        refine e_done (by kernel_rfl) ?_
        refine l_nil ?_
        refine r_seq ?_
        refine r_seq ?_
        refine r_region ?_
        refine l_x rfl (x_mv rfl) ?_
        refine l_x rfl (x_not rfl) ?_
        refine l_nil ?_
        refine r_true rfl ?_
        refine r_seq ?_
        refine r_region ?_
        refine l_x rfl (x_as rfl) ?_
        refine l_x rfl (x_as rfl) ?_
        refine l_nil ?_
        refine r_ret (rs := [.tmp 2, .tmp 3]) [_, _] Try.func43 rfl ⟨rfl, rfl, trivial⟩ ?_
        exact ⟨_, [], _, rfl, New.nilvec .., S84.le, .no hV ⟨_, _, hh1974⟩⟩

/-- couchant/flow.Obstacle. -/
theorem c_Obstacle (N : Int) (va : Value) (arcs : List Arc) (w : World) (hA : Rd EA w va arcs) :
    Cl Try.prog 44 #[.agg #[.int .i64 N, va]] w fun v w' => ∃ A vn ns is e, v = .tuple #[.agg #[.int .i64 A, vn], .bool is, .int .i64 e] ∧ New w w' (vec EI vn ns) ∧ Le w w' ∧ ObsR N arcs A ns is e := by
  refine fn_of_run (args := [_]) 28 Try.func44 rfl rfl rfl fun cs => ?_
  have S := Own.start (X := nob) w
  refine r_seq ?_
  refine r_region ?_
  refine l_box S rfl rfl ?_
  intro b4 w1 S2 hl3
  refine l_alloc S2 rfl Try.zeroValue43 rfl ?_
  intro b8 w5 S6 hl7
  refine l_x rfl (x_as rfl) ?_
  refine l_x rfl (x_as rfl) ?_
  refine l_nil ?_
  refine r_seq ?_
  refine r_seq ?_
  refine r_region ?_
  refine l_x rfl (x_load rfl (ld_blks (S6.blk 0 rfl) Try.isAgg24 Try.sizeOf24 rfl rfl)) ?_
  refine l_call [] [] [_] rfl rfl Try.call36 rfl (c_Check N va arcs _ (hA.le S6.le)) ?_
  rintro _ w9 ⟨rfl, hl11⟩
  have S10 := S6.step hl11
  refine l_x rfl (x_as rfl) ?_
  refine l_nil ?_
  refine r_seq ?_
  refine r_region ?_
  refine l_x rfl (x_mv rfl) ?_
  refine l_x rfl (x_neq rfl rfl) ?_
  refine l_nil ?_
  refine r_ifd rfl (fun hc12 => ?_) (fun hc12 => ?_)
  · skip
    refine r_seq ?_
    refine r_region ?_
    refine l_x rfl (x_buildS (out := [_, _]) (ss := [1, 1]) Try.zeroValue43 rfl Try.runUnderlying43 ⟨Try.sizeOf3, Try.sizeOf25, trivial⟩ fill_nil) ?_
    refine l_x rfl (x_mv rfl) ?_
    refine l_stores (vs := [_, _]) S10 1 rfl rfl rfl rfl (ones_cons rfl (ones_cons rfl ones_nil)) Try.sizeOf43 (by first | exact Nat.le_refl _ | simp) (splice_all rfl) ?_
    intro w12 S13 hk14
    refine l_x rfl (x_as rfl) ?_
    refine l_x rfl (x_as rfl) ?_
    refine l_nil ?_
    refine r_ret (rs := [.cell 2 43, .tmp 3, .tmp 4]) [_, _, _] Try.func44 rfl ⟨⟨_, rfl, (ld_blks (S13.blk 1 rfl) Try.isAgg43 Try.sizeOf43 rfl rfl)⟩, rfl, rfl, trivial⟩ ?_
    exact ⟨_, _, [], _, _, rfl, New.nilvec .., S13.le, .bad hc12⟩
  · skip
    have hV := chk_zero.1 (Decidable.not_not.1 hc12)
    have hLx := hV.len
    refine r_skip ?_
    refine r_seq ?_
    refine r_drawE 14 (yng w9) Try.mixed (by kernel_rfl) ?_
    intro w15 hl16
    have S17 := S10.step hl16
    have hy18 : Keep (yng w9) w9 w15 := .of_le hl16
    refine e_exact 0 _ (by kernel_rfl) rfl rfl (by kernel_rfl) rfl (ex_x rfl (fun w1 h1 => x_load rfl (ld_blks ((S10.yng (hy18.trans h1)).blk 0 rfl) Try.isAgg24 Try.sizeOf24 rfl rfl))) ?_
    refine e_exact 1 _ (by kernel_rfl) rfl rfl (by kernel_rfl) rfl (ex_x rfl (fun w1 h1 => x_fieldAddr rfl Try.runUnderlying24 rfl Try.sizeOf22 (by decide))) ?_
    refine e_exact 2 _ (by kernel_rfl) rfl rfl (by kernel_rfl) rfl (ex_x rfl (fun w1 h1 => x_load rfl (ld_blk ((S10.yng (hy18.trans h1)).blk 0 rfl) Try.isAgg22 rfl))) ?_
    refine e_exact 3 _ (by kernel_rfl) rfl rfl (by kernel_rfl) rfl (ex_x rfl (fun w1 h1 => x_len (hA.le (S10.yng (hy18.trans h1)).le) rfl Try.runUnderlying22)) ?_
    refine e_next [4, 10] (by kernel_rfl) (by kernel_rfl) ⟨⟨_, _, rfl, rfl, ?_⟩, ⟨_, _, rfl, rfl, ?_⟩, trivial⟩
    · skip
      refine s_make EI 0 S17 rfl Try.runUnderlying25 Try.sizeOf3 Try.typeInfo3 Try.zeroValue3 rfl rfl rfl rfl (Nat.le_refl _) (by unfold maxLen; omega) (by show _ * 8 ≤ _; omega) ?_
      intro v22 w19 hv23 S20 hl21
      refine ⟨.of_le hl21, ?_⟩
      have hy24 : Keep (yng w9) w9 w19 := hy18.trans (Keep.of_le hl21)
      refine e_next [5, 10] (by kernel_rfl) (by kernel_rfl) ⟨⟨_, _, rfl, rfl, ?_⟩, ⟨_, _, rfl, rfl, ?_⟩, trivial⟩
      · skip
        refine s_callf [] [] [_, _] rfl rfl Try.call71 rfl ((c_best N va arcs _ _ hV (zero_wts arcs) _ (hA.le S20.le) (vec_rd (S20.at 2 rfl))).mono ?_)
        rintro _ w25 (⟨bc2125, vx2125, x2125, mo2125, p2125, rfl, hO2125, hC2125, hmo2125⟩ | ⟨A2125, vn2125, ns2125, rfl, hN2125, hl2125, hh2125⟩)
        · skip
          have S26 := S20.join hO2125
          refine ⟨.of_le hO2125.le, ?_⟩
          have hy27 : Keep (yng w9) w9 w25 := hy24.trans (Keep.of_le hO2125.le)
          refine e_exact 6 _ (by kernel_rfl) rfl rfl (by kernel_rfl) rfl (ex_x rfl (fun w1 h1 => x_mv rfl)) ?_
          refine e_exact 7 _ (by kernel_rfl) rfl rfl (by kernel_rfl) rfl (ex_x rfl (fun w1 h1 => x_extract rfl rfl)) ?_
          refine e_exact 8 _ (by kernel_rfl) rfl rfl (by kernel_rfl) rfl (ex_x rfl (fun w1 h1 => x_extract rfl rfl)) ?_
          refine e_exact 9 _ (by kernel_rfl) rfl rfl (by kernel_rfl) rfl (ex_x rfl (fun w1 h1 => x_extract rfl rfl)) ?_
          refine e_next [10] (by kernel_rfl) (by kernel_rfl) ⟨⟨_, _, rfl, rfl, ?_⟩, trivial⟩
          refine s_allocY S26 rfl Try.zeroValue43 rfl ?_
          intro b31 w28 S29 hl30 hb32
          refine ⟨.of_le hl30, ?_⟩
          have hy33 : Keep (yng w9) w9 w28 := hy27.trans (Keep.of_le hl30)
          refine e_exact 11 _ (by kernel_rfl) rfl rfl (by kernel_rfl) rfl (ex_x rfl (fun w1 h1 => x_as rfl)) ?_
          refine e_next [12] (by kernel_rfl) (by kernel_rfl) ⟨⟨_, _, rfl, rfl, ?_⟩, trivial⟩
          refine s_stores (vs := [_, _]) S29 5 rfl rfl rfl rfl (ones_cons rfl (ones_cons rfl ones_nil)) Try.sizeOf43 (by first | exact Nat.le_refl _ | simp) (splice_all rfl) ?_
          intro w34 S35 hk36
          refine ⟨(yng_blk hy27 hb32 hk36), ?_⟩
          have hy37 : Keep (yng w9) w9 w34 := hy33.trans ((yng_blk hy27 hb32 hk36))
          refine e_exact 13 _ (by kernel_rfl) rfl rfl (by kernel_rfl) rfl (ex_x rfl (fun w1 h1 => x_as rfl)) ?_
          refine e_done (by kernel_rfl) ?_
          refine l_nil ?_
          refine r_seq ?_
          refine r_region ?_
          refine l_x rfl (x_load rfl (ld_blks (S35.blk 5 rfl) Try.isAgg43 Try.sizeOf43 rfl rfl)) ?_
          refine l_x rfl (x_mv rfl) ?_
          refine l_x rfl (x_not rfl) ?_
          refine l_stores (vs := [_, _]) S35 1 rfl rfl rfl rfl (ones_cons rfl (ones_cons rfl ones_nil)) Try.sizeOf43 (by first | exact Nat.le_refl _ | simp) (splice_all rfl) ?_
          intro w38 S39 hk40
          refine l_x rfl (x_as rfl) ?_
          refine l_x rfl (x_as rfl) ?_
          refine l_nil ?_
          refine r_ret (rs := [.cell 2 43, .tmp 3, .tmp 4]) [_, _, _] Try.func44 rfl ⟨⟨_, rfl, (ld_blks (S39.blk 1 rfl) Try.isAgg43 Try.sizeOf43 rfl rfl)⟩, rfl, rfl, trivial⟩ ?_
          exact ⟨_, _, [], _, _, rfl, New.nilvec .., S39.le, .yes hV (hC2125.circ hV hmo2125)⟩
        · skip
          have S41 := S20.add hl2125 hN2125
          refine ⟨.of_le hl2125, ?_⟩
          have hy42 : Keep (yng w9) w9 w25 := hy24.trans (Keep.of_le hl2125)
          refine e_exact 6 _ (by kernel_rfl) rfl rfl (by kernel_rfl) rfl (ex_x rfl (fun w1 h1 => x_mv rfl)) ?_
          refine e_exact 7 _ (by kernel_rfl) rfl rfl (by kernel_rfl) rfl (ex_x rfl (fun w1 h1 => x_extract rfl rfl)) ?_
          refine e_exact 8 _ (by kernel_rfl) rfl rfl (by kernel_rfl) rfl (ex_x rfl (fun w1 h1 => x_extract rfl rfl)) ?_
          refine e_exact 9 _ (by kernel_rfl) rfl rfl (by kernel_rfl) rfl (ex_x rfl (fun w1 h1 => x_extract rfl rfl)) ?_
          refine e_next [10] (by kernel_rfl) (by kernel_rfl) ⟨⟨_, _, rfl, rfl, ?_⟩, trivial⟩
          refine s_allocY S41 rfl Try.zeroValue43 rfl ?_
          intro b46 w43 S44 hl45 hb47
          refine ⟨.of_le hl45, ?_⟩
          have hy48 : Keep (yng w9) w9 w43 := hy42.trans (Keep.of_le hl45)
          refine e_exact 11 _ (by kernel_rfl) rfl rfl (by kernel_rfl) rfl (ex_x rfl (fun w1 h1 => x_as rfl)) ?_
          refine e_next [12] (by kernel_rfl) (by kernel_rfl) ⟨⟨_, _, rfl, rfl, ?_⟩, trivial⟩
          refine s_stores (vs := [_, _]) S44 4 rfl rfl rfl rfl (ones_cons rfl (ones_cons (Rd.one (vec_rd (S44.at 3 rfl))) ones_nil)) Try.sizeOf43 (by first | exact Nat.le_refl _ | simp) (splice_all rfl) ?_
          intro w49 S50 hk51
          refine ⟨(yng_blk hy42 hb47 hk51), ?_⟩
          have hy52 : Keep (yng w9) w9 w49 := hy48.trans ((yng_blk hy42 hb47 hk51))
          refine e_exact 13 _ (by kernel_rfl) rfl rfl (by kernel_rfl) rfl (ex_x rfl (fun w1 h1 => x_as rfl)) ?_
          refine e_done (by kernel_rfl) ?_
          refine l_nil ?_
          refine r_seq ?_
          refine r_region ?_
          refine l_x rfl (x_load rfl (ld_blks (S50.blk 4 rfl) Try.isAgg43 Try.sizeOf43 rfl rfl)) ?_
          refine l_x rfl (x_mv rfl) ?_
          refine l_x rfl (x_not rfl) ?_
          refine l_stores (vs := [_, _]) S50 1 rfl rfl rfl rfl (ones_cons rfl (ones_cons (Rd.one (vec_rd (S50.at 3 rfl))) ones_nil)) Try.sizeOf43 (by first | exact Nat.le_refl _ | simp) (splice_all rfl) ?_
          intro w53 S54 hk55
          refine l_x rfl (x_as rfl) ?_
          refine l_x rfl (x_as rfl) ?_
          refine l_nil ?_
          refine r_ret (rs := [.cell 2 43, .tmp 3, .tmp 4]) [_, _, _] Try.func44 rfl ⟨⟨_, rfl, (ld_blks (S54.blk 1 rfl) Try.isAgg43 Try.sizeOf43 rfl rfl)⟩, rfl, rfl, trivial⟩ ?_
          exact ⟨_, _, _, _, _, rfl, S54.new 3 rfl, S54.le, .no hV hh2125⟩
      · skip
        refine s_allocY S20 rfl Try.zeroValue43 rfl ?_
        intro b59 w56 S57 hl58 hb60
        refine ⟨.of_le hl58, ?_⟩
        have hy61 : Keep (yng w9) w9 w56 := hy24.trans (Keep.of_le hl58)
        refine e_next [5] (by kernel_rfl) (by kernel_rfl) ⟨⟨_, _, rfl, rfl, ?_⟩, trivial⟩
        refine s_callf [] [] [_, _] rfl rfl Try.call71 rfl ((c_best N va arcs _ _ hV (zero_wts arcs) _ (hA.le S57.le) (vec_rd (S57.at 2 rfl))).mono ?_)
        rintro _ w62 (⟨bc2162, vx2162, x2162, mo2162, p2162, rfl, hO2162, hC2162, hmo2162⟩ | ⟨A2162, vn2162, ns2162, rfl, hN2162, hl2162, hh2162⟩)
        · skip
          have S63 := S57.join hO2162
          refine ⟨.of_le hO2162.le, ?_⟩
          have hy64 : Keep (yng w9) w9 w62 := hy61.trans (Keep.of_le hO2162.le)
          refine e_exact 6 _ (by kernel_rfl) rfl rfl (by kernel_rfl) rfl (ex_x rfl (fun w1 h1 => x_mv rfl)) ?_
          refine e_exact 7 _ (by kernel_rfl) rfl rfl (by kernel_rfl) rfl (ex_x rfl (fun w1 h1 => x_extract rfl rfl)) ?_
          refine e_exact 8 _ (by kernel_rfl) rfl rfl (by kernel_rfl) rfl (ex_x rfl (fun w1 h1 => x_extract rfl rfl)) ?_
          refine e_exact 9 _ (by kernel_rfl) rfl rfl (by kernel_rfl) rfl (ex_x rfl (fun w1 h1 => x_extract rfl rfl)) ?_
          refine e_exact 11 _ (by kernel_rfl) rfl rfl (by kernel_rfl) rfl (ex_x rfl (fun w1 h1 => x_as rfl)) ?_
          refine e_next [12] (by kernel_rfl) (by kernel_rfl) ⟨⟨_, _, rfl, rfl, ?_⟩, trivial⟩
          refine s_stores (vs := [_, _]) S63 3 rfl rfl rfl rfl (ones_cons rfl (ones_cons rfl ones_nil)) Try.sizeOf43 (by first | exact Nat.le_refl _ | simp) (splice_all rfl) ?_
          intro w65 S66 hk67
          refine ⟨(yng_blk hy24 hb60 hk67), ?_⟩
          have hy68 : Keep (yng w9) w9 w65 := hy64.trans ((yng_blk hy24 hb60 hk67))
          refine e_exact 13 _ (by kernel_rfl) rfl rfl (by kernel_rfl) rfl (ex_x rfl (fun w1 h1 => x_as rfl)) ?_
          refine e_done (by kernel_rfl) ?_
          refine l_nil ?_
          refine r_seq ?_
          refine r_region ?_
          refine l_x rfl (x_load rfl (ld_blks (S66.blk 3 rfl) Try.isAgg43 Try.sizeOf43 rfl rfl)) ?_
          refine l_x rfl (x_mv rfl) ?_
          refine l_x rfl (x_not rfl) ?_
          refine l_stores (vs := [_, _]) S66 1 rfl rfl rfl rfl (ones_cons rfl (ones_cons rfl ones_nil)) Try.sizeOf43 (by first | exact Nat.le_refl _ | simp) (splice_all rfl) ?_
          intro w69 S70 hk71
          refine l_x rfl (x_as rfl) ?_
          refine l_x rfl (x_as rfl) ?_
          refine l_nil ?_
          refine r_ret (rs := [.cell 2 43, .tmp 3, .tmp 4]) [_, _, _] Try.func44 rfl ⟨⟨_, rfl, (ld_blks (S70.blk 1 rfl) Try.isAgg43 Try.sizeOf43 rfl rfl)⟩, rfl, rfl, trivial⟩ ?_
          exact ⟨_, _, [], _, _, rfl, New.nilvec .., S70.le, .yes hV (hC2162.circ hV hmo2162)⟩
        · skip
          have S72 := S57.add hl2162 hN2162
          refine ⟨.of_le hl2162, ?_⟩
          have hy73 : Keep (yng w9) w9 w62 := hy61.trans (Keep.of_le hl2162)
          refine e_exact 6 _ (by kernel_rfl) rfl rfl (by kernel_rfl) rfl (ex_x rfl (fun w1 h1 => x_mv rfl)) ?_
          refine e_exact 7 _ (by kernel_rfl) rfl rfl (by kernel_rfl) rfl (ex_x rfl (fun w1 h1 => x_extract rfl rfl)) ?_
          refine e_exact 8 _ (by kernel_rfl) rfl rfl (by kernel_rfl) rfl (ex_x rfl (fun w1 h1 => x_extract rfl rfl)) ?_
          refine e_exact 9 _ (by kernel_rfl) rfl rfl (by kernel_rfl) rfl (ex_x rfl (fun w1 h1 => x_extract rfl rfl)) ?_
          refine e_exact 11 _ (by kernel_rfl) rfl rfl (by kernel_rfl) rfl (ex_x rfl (fun w1 h1 => x_as rfl)) ?_
          refine e_next [12] (by kernel_rfl) (by kernel_rfl) ⟨⟨_, _, rfl, rfl, ?_⟩, trivial⟩
          refine s_stores (vs := [_, _]) S72 3 rfl rfl rfl rfl (ones_cons rfl (ones_cons (Rd.one (vec_rd (S72.at 4 rfl))) ones_nil)) Try.sizeOf43 (by first | exact Nat.le_refl _ | simp) (splice_all rfl) ?_
          intro w74 S75 hk76
          refine ⟨(yng_blk hy24 hb60 hk76), ?_⟩
          have hy77 : Keep (yng w9) w9 w74 := hy73.trans ((yng_blk hy24 hb60 hk76))
          refine e_exact 13 _ (by kernel_rfl) rfl rfl (by kernel_rfl) rfl (ex_x rfl (fun w1 h1 => x_as rfl)) ?_
          refine e_done (by kernel_rfl) ?_
          refine l_nil ?_
          refine r_seq ?_
          refine r_region ?_
          refine l_x rfl (x_load rfl (ld_blks (S75.blk 3 rfl) Try.isAgg43 Try.sizeOf43 rfl rfl)) ?_
          refine l_x rfl (x_mv rfl) ?_
          refine l_x rfl (x_not rfl) ?_
          refine l_stores (vs := [_, _]) S75 1 rfl rfl rfl rfl (ones_cons rfl (ones_cons (Rd.one (vec_rd (S75.at 4 rfl))) ones_nil)) Try.sizeOf43 (by first | exact Nat.le_refl _ | simp) (splice_all rfl) ?_
          intro w78 S79 hk80
          refine l_x rfl (x_as rfl) ?_
          refine l_x rfl (x_as rfl) ?_
          refine l_nil ?_
          refine r_ret (rs := [.cell 2 43, .tmp 3, .tmp 4]) [_, _, _] Try.func44 rfl ⟨⟨_, rfl, (ld_blks (S79.blk 1 rfl) Try.isAgg43 Try.sizeOf43 rfl rfl)⟩, rfl, rfl, trivial⟩ ?_
          exact ⟨_, _, _, _, _, rfl, S79.new 4 rfl, S79.le, .no hV hh2162⟩
    · skip
      refine s_allocY S17 rfl Try.zeroValue43 rfl ?_
      intro b84 w81 S82 hl83 hb85
      refine ⟨.of_le hl83, ?_⟩
      have hy86 : Keep (yng w9) w9 w81 := hy18.trans (Keep.of_le hl83)
      refine e_next [4] (by kernel_rfl) (by kernel_rfl) ⟨⟨_, _, rfl, rfl, ?_⟩, trivial⟩
      refine s_make EI 0 S82 rfl Try.runUnderlying25 Try.sizeOf3 Try.typeInfo3 Try.zeroValue3 rfl rfl rfl rfl (Nat.le_refl _) (by unfold maxLen; omega) (by show _ * 8 ≤ _; omega) ?_
      intro v90 w87 hv91 S88 hl89
      refine ⟨.of_le hl89, ?_⟩
      have hy92 : Keep (yng w9) w9 w87 := hy86.trans (Keep.of_le hl89)
      refine e_next [5] (by kernel_rfl) (by kernel_rfl) ⟨⟨_, _, rfl, rfl, ?_⟩, trivial⟩
      refine s_callf [] [] [_, _] rfl rfl Try.call71 rfl ((c_best N va arcs _ _ hV (zero_wts arcs) _ (hA.le S88.le) (vec_rd (S88.at 3 rfl))).mono ?_)
      rintro _ w93 (⟨bc2193, vx2193, x2193, mo2193, p2193, rfl, hO2193, hC2193, hmo2193⟩ | ⟨A2193, vn2193, ns2193, rfl, hN2193, hl2193, hh2193⟩)
      · skip
        have S94 := S88.join hO2193
        refine ⟨.of_le hO2193.le, ?_⟩
        have hy95 : Keep (yng w9) w9 w93 := hy92.trans (Keep.of_le hO2193.le)
        refine e_exact 6 _ (by kernel_rfl) rfl rfl (by kernel_rfl) rfl (ex_x rfl (fun w1 h1 => x_mv rfl)) ?_
        refine e_exact 7 _ (by kernel_rfl) rfl rfl (by kernel_rfl) rfl (ex_x rfl (fun w1 h1 => x_extract rfl rfl)) ?_
        refine e_exact 8 _ (by kernel_rfl) rfl rfl (by kernel_rfl) rfl (ex_x rfl (fun w1 h1 => x_extract rfl rfl)) ?_
        refine e_exact 9 _ (by kernel_rfl) rfl rfl (by kernel_rfl) rfl (ex_x rfl (fun w1 h1 => x_extract rfl rfl)) ?_
        refine e_exact 11 _ (by kernel_rfl) rfl rfl (by kernel_rfl) rfl (ex_x rfl (fun w1 h1 => x_as rfl)) ?_
        refine e_next [12] (by kernel_rfl) (by kernel_rfl) ⟨⟨_, _, rfl, rfl, ?_⟩, trivial⟩
        refine s_stores (vs := [_, _]) S94 2 rfl rfl rfl rfl (ones_cons rfl (ones_cons rfl ones_nil)) Try.sizeOf43 (by first | exact Nat.le_refl _ | simp) (splice_all rfl) ?_
        intro w96 S97 hk98
        refine ⟨(yng_blk hy18 hb85 hk98), ?_⟩
        have hy99 : Keep (yng w9) w9 w96 := hy95.trans ((yng_blk hy18 hb85 hk98))
        refine e_exact 13 _ (by kernel_rfl) rfl rfl (by kernel_rfl) rfl (ex_x rfl (fun w1 h1 => x_as rfl)) ?_
        refine e_done (by kernel_rfl) ?_
        refine l_nil ?_
        refine r_seq ?_
        refine r_region ?_
        refine l_x rfl (x_load rfl (ld_blks (S97.blk 2 rfl) Try.isAgg43 Try.sizeOf43 rfl rfl)) ?_
        refine l_x rfl (x_mv rfl) ?_
        refine l_x rfl (x_not rfl) ?_
        refine l_stores (vs := [_, _]) S97 1 rfl rfl rfl rfl (ones_cons rfl (ones_cons rfl ones_nil)) Try.sizeOf43 (by first | exact Nat.le_refl _ | simp) (splice_all rfl) ?_
        intro w100 S101 hk102
        refine l_x rfl (x_as rfl) ?_
        refine l_x rfl (x_as rfl) ?_
        refine l_nil ?_
        refine r_ret (rs := [.cell 2 43, .tmp 3, .tmp 4]) [_, _, _] Try.func44 rfl ⟨⟨_, rfl, (ld_blks (S101.blk 1 rfl) Try.isAgg43 Try.sizeOf43 rfl rfl)⟩, rfl, rfl, trivial⟩ ?_
        exact ⟨_, _, [], _, _, rfl, New.nilvec .., S101.le, .yes hV (hC2193.circ hV hmo2193)⟩
      · skip
        have S103 := S88.add hl2193 hN2193
        refine ⟨.of_le hl2193, ?_⟩
        have hy104 : Keep (yng w9) w9 w93 := hy92.trans (Keep.of_le hl2193)
        refine e_exact 6 _ (by kernel_rfl) rfl rfl (by kernel_rfl) rfl (ex_x rfl (fun w1 h1 => x_mv rfl)) ?_
        refine e_exact 7 _ (by kernel_rfl) rfl rfl (by kernel_rfl) rfl (ex_x rfl (fun w1 h1 => x_extract rfl rfl)) ?_
        refine e_exact 8 _ (by kernel_rfl) rfl rfl (by kernel_rfl) rfl (ex_x rfl (fun w1 h1 => x_extract rfl rfl)) ?_
        refine e_exact 9 _ (by kernel_rfl) rfl rfl (by kernel_rfl) rfl (ex_x rfl (fun w1 h1 => x_extract rfl rfl)) ?_
        refine e_exact 11 _ (by kernel_rfl) rfl rfl (by kernel_rfl) rfl (ex_x rfl (fun w1 h1 => x_as rfl)) ?_
        refine e_next [12] (by kernel_rfl) (by kernel_rfl) ⟨⟨_, _, rfl, rfl, ?_⟩, trivial⟩
        refine s_stores (vs := [_, _]) S103 2 rfl rfl rfl rfl (ones_cons rfl (ones_cons (Rd.one (vec_rd (S103.at 4 rfl))) ones_nil)) Try.sizeOf43 (by first | exact Nat.le_refl _ | simp) (splice_all rfl) ?_
        intro w105 S106 hk107
        refine ⟨(yng_blk hy18 hb85 hk107), ?_⟩
        have hy108 : Keep (yng w9) w9 w105 := hy104.trans ((yng_blk hy18 hb85 hk107))
        refine e_exact 13 _ (by kernel_rfl) rfl rfl (by kernel_rfl) rfl (ex_x rfl (fun w1 h1 => x_as rfl)) ?_
        refine e_done (by kernel_rfl) ?_
        refine l_nil ?_
        refine r_seq ?_
        refine r_region ?_
        refine l_x rfl (x_load rfl (ld_blks (S106.blk 2 rfl) Try.isAgg43 Try.sizeOf43 rfl rfl)) ?_
        refine l_x rfl (x_mv rfl) ?_
        refine l_x rfl (x_not rfl) ?_
        refine l_stores (vs := [_, _]) S106 1 rfl rfl rfl rfl (ones_cons rfl (ones_cons (Rd.one (vec_rd (S106.at 4 rfl))) ones_nil)) Try.sizeOf43 (by first | exact Nat.le_refl _ | simp) (splice_all rfl) ?_
        intro w109 S110 hk111
        refine l_x rfl (x_as rfl) ?_
        refine l_x rfl (x_as rfl) ?_
        refine l_nil ?_
        refine r_ret (rs := [.cell 2 43, .tmp 3, .tmp 4]) [_, _, _] Try.func44 rfl ⟨⟨_, rfl, (ld_blks (S110.blk 1 rfl) Try.isAgg43 Try.sizeOf43 rfl rfl)⟩, rfl, rfl, trivial⟩ ?_
        exact ⟨_, _, _, _, _, rfl, S110.new 4 rfl, S110.le, .no hV hh2193⟩

/-- couchant/flow.Greatest$1. -/
theorem c_Greatest1 (N : Int) (va : Value) (arcs : List Arc) (vw : Value) (wl : List Int) (b0 b1 : Nat) (hmwl : wl.length ≤ 9223372036854775807) (w : World) (h0 : Blk w b0 [.int .i64 N, va] 24) (h1 : Blk w b1 [vw] 25)  (hA : Rd EA w va arcs) (Hwl : Rd EI w vw wl) :
    Cl Try.prog 69 #[.pointer (some ⟨b0, 0, none⟩), .pointer (some ⟨b1, 0, none⟩)] w fun v w' => v = .bool (row wl arcs.length (-1000) 1000) ∧ Le w w' := by
  refine fn_of_run (args := [_, _]) 6 Try.func69 rfl rfl rfl fun cs => ?_
  have S := Own.start (X := nob) w
  refine r_seq ?_
  refine r_region ?_
  refine l_x rfl (x_as rfl) ?_
  refine l_nil ?_
  refine r_seq ?_
  refine r_region ?_
  refine l_x rfl (x_load rfl (ld_blks (h0.keep S.le id) Try.isAgg24 Try.sizeOf24 rfl rfl)) ?_
  refine l_x rfl (x_load rfl (ld_blk (h1.keep S.le id) Try.isAgg25 rfl)) ?_
  refine l_call [] [] [_, _] rfl rfl Try.call70 rfl (c_weights N _ arcs _ _ (by omega) _ (hA.le S.le) (Hwl.le S.le)) ?_
  rintro _ w1 ⟨rfl, hl3⟩
  have S2 := S.step hl3
  refine l_x rfl (x_as rfl) ?_
  refine l_nil ?_
  refine r_ret (rs := [.tmp 2]) [_] Try.func69 rfl ⟨rfl, trivial⟩ ?_
  exact ⟨congrArg Value.bool (by simp [*]), S2.le⟩

/-- couchant/flow.Greatest. -/
theorem c_Greatest (N : Int) (va : Value) (arcs : List Arc) (vw : Value) (wl : List Int) (hmwl : wl.length ≤ 9223372036854775807) (w : World) (hA : Rd EA w va arcs) (Hwl : Rd EI w vw wl) :
    Cl Try.prog 22 #[.agg #[.int .i64 N, va], vw] w fun v w' => ∃ n vx x vp p e, v = .tuple #[.int .i64 n, vx, vp, .int .i64 e] ∧ Own nob w w' [vec EI vx x, vec EI vp p] ∧ GrR N arcs wl n x p e := by
  refine fn_of_run (args := [_, _]) 39 Try.func22 rfl rfl rfl fun cs => ?_
  have S := Own.start (X := nob) w
  refine r_seq ?_
  refine r_region ?_
  refine l_box S rfl rfl ?_
  intro b4 w1 S2 hl3
  refine l_box S2 rfl (Rd.cells (Hwl.le S2.le)) ?_
  intro b8 w5 S6 hl7
  refine l_x rfl (x_as rfl) ?_
  refine l_x rfl (x_as rfl) ?_
  refine l_x rfl (x_as rfl) ?_
  refine l_x rfl (x_as rfl) ?_
  refine l_nil ?_
  refine r_seq ?_
  refine r_seq ?_
  refine r_region ?_
  refine l_x rfl (x_load rfl (ld_blks (S6.blk 0 rfl) Try.isAgg24 Try.sizeOf24 rfl rfl)) ?_
  refine l_x rfl (x_func rfl rfl) ?_
  refine l_call [] [] [_, _] rfl rfl Try.call62 rfl (c_asked N va arcs (row wl arcs.length (-1000) 1000) 69 [_, _] _ (hA.le S6.le) Try.call69 (fun _ w1 h1 => c_Greatest1 N va arcs vw wl _ _ (by omega) w1 ((S6.blk 0 rfl).keep h1 id) ((S6.blk 1 rfl).keep h1 id) (hA.le (S6.le.trans h1)) (Hwl.le (S6.le.trans h1)))) ?_
  rintro _ w9 ⟨rfl, hl11⟩
  have S10 := S6.step hl11
  refine l_x rfl (x_as rfl) ?_
  refine l_nil ?_
  refine r_seq ?_
  refine r_region ?_
  refine l_x rfl (x_mv rfl) ?_
  refine l_x rfl (x_neq rfl rfl) ?_
  refine l_nil ?_
  refine r_ifd rfl (fun hc16 => ?_) (fun hc16 => ?_)
  · skip
    refine r_seq ?_
    refine r_region ?_
    refine l_x rfl (x_mv rfl) ?_
    refine l_x rfl (x_as rfl) ?_
    refine l_x rfl (x_as rfl) ?_
    refine l_x rfl (x_as rfl) ?_
    refine l_x rfl (x_as rfl) ?_
    refine l_nil ?_
    refine r_ret (rs := [.tmp 4, .tmp 5, .tmp 6, .tmp 7]) [_, _, _, _] Try.func22 rfl ⟨rfl, rfl, rfl, rfl, trivial⟩ ?_
    exact ⟨_, _, [], _, [], _, rfl, (S10.nilvec (E := EI)).nilvec (E := EI) |>.pick [2, 3] (by decide) rfl, .bad hc16⟩
  · skip
    have h0 := Decidable.not_not.1 hc16
    obtain ⟨hV, hw0⟩ := askw_zero.1 h0
    have hLx := hV.len
    refine r_skip ?_
    refine r_seq ?_
    refine r_region ?_
    refine l_x rfl (x_load rfl (ld_blks (S10.blk 0 rfl) Try.isAgg24 Try.sizeOf24 rfl rfl)) ?_
    refine l_x rfl (x_load rfl (ld_blk (S10.blk 1 rfl) Try.isAgg25 rfl)) ?_
    refine l_call [] [] [_, _] rfl rfl Try.call71 rfl (c_best N va arcs _ _ hV hw0 _ (hA.le S10.le) (Hwl.le S10.le)) ?_
    rintro _ w12 (⟨bc2112, vx2112, x2112, mo2112, p2112, rfl, hO2112, hC2112, hmo2112⟩ | ⟨A2112, vn2112, ns2112, rfl, hN2112, hl2112, hh2112⟩)
    · skip
      have S13 := S10.join hO2112
      refine l_x rfl (x_mv rfl) ?_
      refine l_x rfl (x_extract rfl rfl) ?_
      refine l_x rfl (x_extract rfl rfl) ?_
      refine l_x rfl (x_extract rfl rfl) ?_
      refine l_alloc S13 rfl Try.zeroValue43 rfl ?_
      intro b17 w14 S15 hl16
      refine l_x rfl (x_as rfl) ?_
      refine l_stores (vs := [_, _]) S15 4 rfl rfl rfl rfl (ones_cons rfl (ones_cons rfl ones_nil)) Try.sizeOf43 (by first | exact Nat.le_refl _ | simp) (splice_all rfl) ?_
      intro w18 S19 hk20
      refine l_x rfl (x_as rfl) ?_
      refine l_nil ?_
      refine r_seq ?_
      refine r_seq ?_
      refine r_region ?_
      refine l_x rfl (x_mv rfl) ?_
      refine l_x rfl (x_not rfl) ?_
      refine l_nil ?_
      refine r_false rfl ?_
      refine r_skip ?_
      refine r_seq ?_
      have S21 := S19.pick (L' := [_, _, _, _, _]) [0, 1, 4, 2, 3] (by decide) rfl
      have hcirc := hC2112.circ hV hmo2112
      have hxA := hcirc.amts hV
      refine r_drawE 16 (Rsc.fp (pack [blk bc2112 (carC N va vx2112 vw mo2112 p2112) 91, vec EI vx2112 x2112])) Try.mixed (by kernel_rfl) ?_
      intro w22 hl23
      have S24 := S21.step hl23
      refine e_exact 0 _ (by kernel_rfl) rfl rfl (by kernel_rfl) rfl (ex_x rfl (fun w1 h1 => x_load rfl (ld_blk (((Own.pack (A := [_, _, _]) (L := [_, _]) S24).under 3 rfl h1).blk 1 rfl) Try.isAgg25 rfl))) ?_
      refine e_exact 1 _ (by kernel_rfl) rfl rfl (by kernel_rfl) rfl (ex_x rfl (fun w1 h1 => x_mv rfl)) ?_
      refine e_exact 2 _ (by kernel_rfl) rfl rfl (by kernel_rfl) rfl (ex_x rfl (fun w1 h1 => x_nilCheck rfl)) ?_
      refine e_exact 3 _ (by kernel_rfl) rfl rfl (by kernel_rfl) rfl (ex_x rfl (fun w1 h1 => x_fieldAddr rfl Try.runUnderlying91 rfl Try.sizeOf25 (by decide))) ?_
      refine e_exact 6 _ (by kernel_rfl) rfl rfl (by kernel_rfl) rfl (ex_x rfl (fun w1 h1 => x_mv rfl)) ?_
      refine e_exact 7 _ (by kernel_rfl) rfl rfl (by kernel_rfl) rfl (ex_x rfl (fun w1 h1 => x_nilCheck rfl)) ?_
      refine e_exact 8 _ (by kernel_rfl) rfl rfl (by kernel_rfl) rfl (ex_x rfl (fun w1 h1 => x_fieldAddr rfl Try.runUnderlying91 rfl Try.sizeOf25 (by decide))) ?_
      refine e_exact 10 _ (by kernel_rfl) rfl rfl (by kernel_rfl) rfl (ex_x rfl (fun w1 h1 => x_mv rfl)) ?_
      refine e_next [4, 9] (by kernel_rfl) (by kernel_rfl) ⟨⟨_, _, rfl, rfl, ?_⟩, ⟨_, _, rfl, rfl, ?_⟩, trivial⟩
      · skip
        refine s_x rfl (x_load rfl (ld_blk (S24.blk 3 rfl) Try.isAgg25 rfl)) ?_
        refine ⟨Keep.refl _ _, ?_⟩
        refine e_next [5, 9] (by kernel_rfl) (by kernel_rfl) ⟨⟨_, _, rfl, rfl, ?_⟩, ⟨_, _, rfl, rfl, ?_⟩, trivial⟩
        · skip
          refine s_callf [] [] [_, _] rfl rfl Try.call72 rfl ((c_sum arcs N _ _ _ _ hV hw0 hxA _ (Hwl.le S24.le) (vec_rd (S24.at 4 rfl))).mono ?_)
          rintro _ w25 ⟨rfl, hl3225⟩
          have S26 := S24.step hl3225
          refine ⟨.of_le hl3225, ?_⟩
          refine e_next [9, 11] (by kernel_rfl) (by kernel_rfl) ⟨⟨_, _, rfl, rfl, ?_⟩, ⟨_, _, rfl, rfl, ?_⟩, trivial⟩
          · skip
            refine s_x rfl (x_load rfl (ld_blk (S26.blk 3 rfl) Try.isAgg25 rfl)) ?_
            refine ⟨Keep.refl _ _, ?_⟩
            refine e_next [11] (by kernel_rfl) (by kernel_rfl) ⟨⟨_, _, rfl, rfl, ?_⟩, trivial⟩
            refine s_callf [] [] [_] rfl rfl Try.call73 rfl ((c_shown N va arcs vx2112 x2112 vw wl mo2112 p2112 hV hw0 hC2112 bc2112 _ w (fun b hb => ((Own.pack (A := [_, _, _]) (L := [_, _]) S26).bd 3 _ rfl b hb).2.resolve_right id) hA Hwl _ (((Own.pack (A := [_, _, _]) (L := [_, _]) S26).lend 3 rfl).open) S26.le).mono ?_)
            rintro v3827 w27 ⟨q3827, hO3827, hP3827, hS3827⟩
            have S28 := Own.unpack (A := [_, _, _]) (L := [_, _, _]) ((Own.pack (A := [_, _, _]) (L := [_, _]) S26).back 3 rfl hO3827.close)
            refine ⟨hO3827.keep, ?_⟩
            refine e_exact 12 _ (by kernel_rfl) rfl rfl (by kernel_rfl) rfl (ex_x rfl (fun w1 h1 => x_as rfl)) ?_
            refine e_exact 13 _ (by kernel_rfl) rfl rfl (by kernel_rfl) rfl (ex_x rfl (fun w1 h1 => x_as rfl)) ?_
            refine e_exact 14 _ (by kernel_rfl) rfl rfl (by kernel_rfl) rfl (ex_x rfl (fun w1 h1 => x_as rfl)) ?_
            refine e_exact 15 _ (by kernel_rfl) rfl rfl (by kernel_rfl) rfl (ex_x rfl (fun w1 h1 => x_as rfl)) ?_
            refine e_done (by kernel_rfl) ?_
            refine l_nil ?_
            refine r_ret (rs := [.tmp 4, .tmp 5, .tmp 6, .tmp 7]) [_, _, _, _] Try.func22 rfl ⟨rfl, rfl, rfl, rfl, trivial⟩ ?_
            exact ⟨_, _, _, _, _, _, rfl, S28.pick [4, 5] (by decide) rfl, .yes hV hw0 ⟨hcirc, hP3827, hS3827⟩⟩
          · skip
            refine s_callf [] [] [_] rfl rfl Try.call73 rfl ((c_shown N va arcs vx2112 x2112 vw wl mo2112 p2112 hV hw0 hC2112 bc2112 _ w (fun b hb => ((Own.pack (A := [_, _, _]) (L := [_, _]) S26).bd 3 _ rfl b hb).2.resolve_right id) hA Hwl _ (((Own.pack (A := [_, _, _]) (L := [_, _]) S26).lend 3 rfl).open) S26.le).mono ?_)
            rintro v3829 w29 ⟨q3829, hO3829, hP3829, hS3829⟩
            have S30 := Own.unpack (A := [_, _, _]) (L := [_, _, _]) ((Own.pack (A := [_, _, _]) (L := [_, _]) S26).back 3 rfl hO3829.close)
            refine ⟨hO3829.keep, ?_⟩
            refine e_exact 12 _ (by kernel_rfl) rfl rfl (by kernel_rfl) rfl (ex_x rfl (fun w1 h1 => x_as rfl)) ?_
            refine e_next [9] (by kernel_rfl) (by kernel_rfl) ⟨⟨_, _, rfl, rfl, ?_⟩, trivial⟩
            refine s_x rfl (x_load rfl (ld_blk (S30.blk 3 rfl) Try.isAgg25 rfl)) ?_
            refine ⟨Keep.refl _ _, ?_⟩
            refine e_exact 13 _ (by kernel_rfl) rfl rfl (by kernel_rfl) rfl (ex_x rfl (fun w1 h1 => x_as rfl)) ?_
            refine e_exact 14 _ (by kernel_rfl) rfl rfl (by kernel_rfl) rfl (ex_x rfl (fun w1 h1 => x_as rfl)) ?_
            refine e_exact 15 _ (by kernel_rfl) rfl rfl (by kernel_rfl) rfl (ex_x rfl (fun w1 h1 => x_as rfl)) ?_
            refine e_done (by kernel_rfl) ?_
            refine l_nil ?_
            refine r_ret (rs := [.tmp 4, .tmp 5, .tmp 6, .tmp 7]) [_, _, _, _] Try.func22 rfl ⟨rfl, rfl, rfl, rfl, trivial⟩ ?_
            exact ⟨_, _, _, _, _, _, rfl, S30.pick [4, 5] (by decide) rfl, .yes hV hw0 ⟨hcirc, hP3829, hS3829⟩⟩
        · skip
          refine s_x rfl (x_load rfl (ld_blk (S24.blk 3 rfl) Try.isAgg25 rfl)) ?_
          refine ⟨Keep.refl _ _, ?_⟩
          refine e_next [5] (by kernel_rfl) (by kernel_rfl) ⟨⟨_, _, rfl, rfl, ?_⟩, trivial⟩
          refine s_callf [] [] [_, _] rfl rfl Try.call72 rfl ((c_sum arcs N _ _ _ _ hV hw0 hxA _ (Hwl.le S24.le) (vec_rd (S24.at 4 rfl))).mono ?_)
          rintro _ w31 ⟨rfl, hl3231⟩
          have S32 := S24.step hl3231
          refine ⟨.of_le hl3231, ?_⟩
          refine e_next [11] (by kernel_rfl) (by kernel_rfl) ⟨⟨_, _, rfl, rfl, ?_⟩, trivial⟩
          refine s_callf [] [] [_] rfl rfl Try.call73 rfl ((c_shown N va arcs vx2112 x2112 vw wl mo2112 p2112 hV hw0 hC2112 bc2112 _ w (fun b hb => ((Own.pack (A := [_, _, _]) (L := [_, _]) S32).bd 3 _ rfl b hb).2.resolve_right id) hA Hwl _ (((Own.pack (A := [_, _, _]) (L := [_, _]) S32).lend 3 rfl).open) S32.le).mono ?_)
          rintro v3833 w33 ⟨q3833, hO3833, hP3833, hS3833⟩
          have S34 := Own.unpack (A := [_, _, _]) (L := [_, _, _]) ((Own.pack (A := [_, _, _]) (L := [_, _]) S32).back 3 rfl hO3833.close)
          refine ⟨hO3833.keep, ?_⟩
          refine e_exact 12 _ (by kernel_rfl) rfl rfl (by kernel_rfl) rfl (ex_x rfl (fun w1 h1 => x_as rfl)) ?_
          refine e_exact 13 _ (by kernel_rfl) rfl rfl (by kernel_rfl) rfl (ex_x rfl (fun w1 h1 => x_as rfl)) ?_
          refine e_exact 14 _ (by kernel_rfl) rfl rfl (by kernel_rfl) rfl (ex_x rfl (fun w1 h1 => x_as rfl)) ?_
          refine e_exact 15 _ (by kernel_rfl) rfl rfl (by kernel_rfl) rfl (ex_x rfl (fun w1 h1 => x_as rfl)) ?_
          refine e_done (by kernel_rfl) ?_
          refine l_nil ?_
          refine r_ret (rs := [.tmp 4, .tmp 5, .tmp 6, .tmp 7]) [_, _, _, _] Try.func22 rfl ⟨rfl, rfl, rfl, rfl, trivial⟩ ?_
          exact ⟨_, _, _, _, _, _, rfl, S34.pick [4, 5] (by decide) rfl, .yes hV hw0 ⟨hcirc, hP3833, hS3833⟩⟩
      · skip
        refine s_x rfl (x_load rfl (ld_blk (S24.blk 3 rfl) Try.isAgg25 rfl)) ?_
        refine ⟨Keep.refl _ _, ?_⟩
        refine e_next [4] (by kernel_rfl) (by kernel_rfl) ⟨⟨_, _, rfl, rfl, ?_⟩, trivial⟩
        refine s_x rfl (x_load rfl (ld_blk (S24.blk 3 rfl) Try.isAgg25 rfl)) ?_
        refine ⟨Keep.refl _ _, ?_⟩
        refine e_next [5] (by kernel_rfl) (by kernel_rfl) ⟨⟨_, _, rfl, rfl, ?_⟩, trivial⟩
        refine s_callf [] [] [_, _] rfl rfl Try.call72 rfl ((c_sum arcs N _ _ _ _ hV hw0 hxA _ (Hwl.le S24.le) (vec_rd (S24.at 4 rfl))).mono ?_)
        rintro _ w35 ⟨rfl, hl3235⟩
        have S36 := S24.step hl3235
        refine ⟨.of_le hl3235, ?_⟩
        refine e_next [11] (by kernel_rfl) (by kernel_rfl) ⟨⟨_, _, rfl, rfl, ?_⟩, trivial⟩
        refine s_callf [] [] [_] rfl rfl Try.call73 rfl ((c_shown N va arcs vx2112 x2112 vw wl mo2112 p2112 hV hw0 hC2112 bc2112 _ w (fun b hb => ((Own.pack (A := [_, _, _]) (L := [_, _]) S36).bd 3 _ rfl b hb).2.resolve_right id) hA Hwl _ (((Own.pack (A := [_, _, _]) (L := [_, _]) S36).lend 3 rfl).open) S36.le).mono ?_)
        rintro v3837 w37 ⟨q3837, hO3837, hP3837, hS3837⟩
        have S38 := Own.unpack (A := [_, _, _]) (L := [_, _, _]) ((Own.pack (A := [_, _, _]) (L := [_, _]) S36).back 3 rfl hO3837.close)
        refine ⟨hO3837.keep, ?_⟩
        refine e_exact 12 _ (by kernel_rfl) rfl rfl (by kernel_rfl) rfl (ex_x rfl (fun w1 h1 => x_as rfl)) ?_
        refine e_exact 13 _ (by kernel_rfl) rfl rfl (by kernel_rfl) rfl (ex_x rfl (fun w1 h1 => x_as rfl)) ?_
        refine e_exact 14 _ (by kernel_rfl) rfl rfl (by kernel_rfl) rfl (ex_x rfl (fun w1 h1 => x_as rfl)) ?_
        refine e_exact 15 _ (by kernel_rfl) rfl rfl (by kernel_rfl) rfl (ex_x rfl (fun w1 h1 => x_as rfl)) ?_
        refine e_done (by kernel_rfl) ?_
        refine l_nil ?_
        refine r_ret (rs := [.tmp 4, .tmp 5, .tmp 6, .tmp 7]) [_, _, _, _] Try.func22 rfl ⟨rfl, rfl, rfl, rfl, trivial⟩ ?_
        exact ⟨_, _, _, _, _, _, rfl, S38.pick [4, 5] (by decide) rfl, .yes hV hw0 ⟨hcirc, hP3837, hS3837⟩⟩
    · skip
      have S39 := S10.add hl2112 hN2112
      refine l_x rfl (x_mv rfl) ?_
      refine l_x rfl (x_extract rfl rfl) ?_
      refine l_x rfl (x_extract rfl rfl) ?_
      refine l_x rfl (x_extract rfl rfl) ?_
      refine l_alloc S39 rfl Try.zeroValue43 rfl ?_
      intro b43 w40 S41 hl42
      refine l_x rfl (x_as rfl) ?_
      refine l_stores (vs := [_, _]) S41 3 rfl rfl rfl rfl (ones_cons rfl (ones_cons (Rd.one (vec_rd (S41.at 2 rfl))) ones_nil)) Try.sizeOf43 (by first | exact Nat.le_refl _ | simp) (splice_all rfl) ?_
      intro w44 S45 hk46
      refine l_x rfl (x_as rfl) ?_
      refine l_nil ?_
      refine r_seq ?_
      refine r_seq ?_
      refine r_region ?_
      refine l_x rfl (x_mv rfl) ?_
      refine l_x rfl (x_not rfl) ?_
      refine l_nil ?_
      refine r_true rfl ?_
      refine r_seq ?_
      refine r_region ?_
      refine l_x rfl (x_as rfl) ?_
      refine l_x rfl (x_as rfl) ?_
      refine l_x rfl (x_as rfl) ?_
      refine l_x rfl (x_as rfl) ?_
      refine l_nil ?_
      refine r_ret (rs := [.tmp 4, .tmp 5, .tmp 6, .tmp 7]) [_, _, _, _] Try.func22 rfl ⟨rfl, rfl, rfl, rfl, trivial⟩ ?_
      exact ⟨_, _, [], _, [], _, rfl, (S45.nilvec (E := EI)).nilvec (E := EI) |>.pick [4, 5] (by decide) rfl, .no hV hw0 ⟨_, _, hh2112⟩⟩

end Go.Proofs
