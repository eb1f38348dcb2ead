/-
  Contracts of functions of the program: each by symbolic execution of its text.
-/
import Derived.Test.YtddapgjjndbejaaF4
import Derived.Test.YtddapgjjndbejaaShelf
namespace Go.Proofs
open Go Go.Vk Go.Vk.Flow

/-- slices.DeleteFunc[[]int,int]. -/
theorem c_DeleteFunc (v0 : Value) (l : List Int) (p : Int → Bool) (kf : Nat) (caps : List Value) (hmx : l.length ≤ 9223372036854775807) (w : World) (he : ∀ args w, (callFunc kf args).run Try.prog w = .ok (.enter kf args) w)
    (hf : ∀ x ∈ l, ∀ w1, Cl Try.prog kf ([Value.int .i64 x] ++ caps).toArray w1 fun v w2 => v = .bool (p x) ∧ Le w1 w2) (S : Own (vec EI v0 l).fp w w [vec EI v0 l]) :
    Cl Try.prog 124 #[v0, .func (.func kf) #[] caps.toArray] w fun v w' => Own (vec EI v0 l).fp w w' [vec EI v (l.filter fun x => !p x)] := by
  refine fn_of_run (args := [_, _]) 42 Try.func124 rfl rfl rfl fun cs => ?_
  refine r_seq ?_
  refine r_region ?_
  refine l_x rfl (x_as rfl) ?_
  refine l_nil ?_
  refine r_seq ?_
  refine r_region ?_
  refine l_x rfl (x_mv rfl) ?_
  refine l_x rfl (x_mv rfl) ?_
  refine l_call [] [] [_, _] rfl rfl Try.call117 rfl (c_IndexFuncInt _ _ p kf caps hmx _ (vec_rd (S.at 0 rfl)) he (fun x hx w1 _ => hf x hx w1)) ?_
  rintro _ w1 ⟨rfl, hl3⟩
  have S2 := S.step hl3
  refine l_x rfl (x_as rfl) ?_
  refine l_nil ?_
  refine r_seq ?_
  refine r_seq ?_
  refine r_region ?_
  refine l_x rfl (x_mv rfl) ?_
  refine l_x rfl (x_eql rfl rfl) ?_
  refine l_nil ?_
  refine r_ifd rfl (fun hc12 => ?_) (fun hc12 => ?_)
  · skip
    refine r_seq ?_
    refine r_region ?_
    refine l_x rfl (x_mv rfl) ?_
    refine l_x rfl (x_as rfl) ?_
    refine l_nil ?_
    refine r_ret (rs := [.tmp 4]) [_] Try.func124 rfl ⟨rfl, trivial⟩ ?_
    rw [List.filter_eq_self.2 fun x hx => by simp [idx_neg hc12 x hx]]
    exact S2
  · skip
    refine r_skip ?_
    refine r_seq ?_
    refine r_seq ?_
    obtain ⟨i0, a0, hi0, ha0, hp0, hn0⟩ := idx_pos hc12
    have hi0l := (List.getElem?_eq_some_iff.1 ha0).1
    refine r_slot 5 (.int .i64 (i0 : Int)) (congrArg (Value.int .i64) hi0) ?_
    refine r_region ?_
    refine l_x rfl (x_mv rfl) ?_
    refine l_x rfl (x_add rfl rfl (by omega)) ?_
    refine l_x rfl (x_as rfl) ?_
    refine l_nil ?_
    refine r_block ?_
    refine r_loop (G := Nat × Nat × List Int) (fun ⟨i, j, l1⟩ => l.length - j) (fun ⟨i, j, l1⟩ => [(0, v0), (1, .func (.func kf) #[] caps.toArray), (5, .int .i64 i), (6, .int .i64 j)]) (fun ⟨i, j, l1⟩ w' => (DelInv p l l1 i j) ∧ Own (vec EI v0 l).fp w w' [vec EI v0 l1]) (i0, i0 + 1, l) ⟨rfl, rfl, rfl, rfl, trivial⟩ ⟨DelInv.start ha0 hp0 hn0, S2⟩ ?_
    rintro ⟨i, j, l1⟩ ρ w1 ⟨hI, S1⟩ IH
    refine r_seq ?_
    refine r_seq ?_
    refine r_region ?_
    refine l_x rfl (x_mv rfl) ?_
    refine l_x rfl (x_mv rfl) ?_
    refine l_x rfl (x_len (vec_rd (S1.at 0 rfl)) rfl Try.runUnderlying25) ?_
    refine l_x rfl (x_lss rfl rfl) ?_
    refine l_nil ?_
    refine r_ifd rfl (fun hc19 => ?_) (fun hc19 => ?_)
    · skip
      have hlen := hI.len
      have hle := hI.le
      obtain ⟨a, ha⟩ : ∃ a, l[j]? = some a := ⟨_, List.getElem?_eq_getElem (by omega)⟩
      have ha1 := hI.at ha
      refine r_skip ?_
      refine r_seq ?_
      refine r_block ?_
      refine r_seq ?_
      refine r_region ?_
      refine l_x rfl (x_mv rfl) ?_
      refine l_x rfl (x_mv rfl) ?_
      refine l_index EI rfl (vec_rd (S1.at 0 rfl)) rfl rfl Try.runUnderlying25 Try.sizeOf3 (by omega) (by first | assumption | exact List.getElem?_eq_getElem (by omega)) ?_
      intro b4 o5 hat6 row7
      refine l_x rfl (x_load rfl (ld_cell Try.isAgg3 (row7 0 _ rfl))) ?_
      refine l_x rfl (x_as rfl) ?_
      refine l_nil ?_
      refine r_seq ?_
      refine r_region ?_
      refine l_x rfl (x_mv rfl) ?_
      refine l_x rfl (x_mv rfl) ?_
      refine l_call [] caps ([_] ++ caps) rfl rfl he rfl (hf _ (List.mem_of_getElem? ha) _) ?_
      rintro _ w8 ⟨rfl, hl10⟩
      have S9 := S1.step hl10
      refine l_x rfl (x_not rfl) ?_
      refine l_nil ?_
      refine r_if rfl (fun hc29 => ?_) (fun hc29 => ?_)
      · skip
        have hc29 : p a = false := by simpa using hc29
        refine r_seq ?_
        refine r_region ?_
        refine l_x rfl (x_mv rfl) ?_
        refine l_x rfl (x_mv rfl) ?_
        refine l_x rfl (x_mv rfl) ?_
        refine l_index EI rfl (vec_rd (S9.at 0 rfl)) rfl rfl Try.runUnderlying25 Try.sizeOf3 (by omega) (by first | assumption | exact List.getElem?_eq_getElem (by omega)) ?_
        intro b11 o12 hat13 row14
        refine l_storevi (f := 0) S9 0 rfl rfl hat13 rfl rfl Try.sizeOf3 (by first | assumption | exact List.getElem?_eq_getElem (by omega)) (by decide) rfl ?_
        intro w15 S16 hk17
        refine l_nil ?_
        refine r_region ?_
        refine l_x rfl (x_mv rfl) ?_
        refine l_x rfl (x_add rfl rfl (by omega)) ?_
        refine l_x rfl (x_as rfl) ?_
        refine l_nil ?_
        refine r_inBlock ?_
        refine r_region ?_
        refine l_x rfl (x_mv rfl) ?_
        refine l_x rfl (x_add rfl rfl (by omega)) ?_
        refine l_x rfl (x_as rfl) ?_
        refine l_nil ?_
        exact IH (i + 1, j + 1, l1.set i a) _ _ (by dsimp only; omega) ⟨rfl, rfl, rfl, rfl, trivial⟩ ⟨hI.keep ha hc29, S16⟩
      · skip
        have hc29 : p a = true := by simpa using hc29
        refine r_skip ?_
        refine r_inBlock ?_
        refine r_region ?_
        refine l_x rfl (x_mv rfl) ?_
        refine l_x rfl (x_add rfl rfl (by omega)) ?_
        refine l_x rfl (x_as rfl) ?_
        refine l_nil ?_
        exact IH (i, j + 1, l1) _ _ (by dsimp only; omega) ⟨rfl, rfl, rfl, rfl, trivial⟩ ⟨hI.drop ha hc29, S9⟩
    · skip
      have hlen := hI.len
      have hle := hI.le
      have hj : j = l.length := by have := hI.lej; omega
      subst hj
      refine r_exit rfl ?_
      refine r_seq ?_
      refine r_region ?_
      refine l_x rfl (x_mv rfl) ?_
      refine l_x rfl (x_mv rfl) ?_
      refine l_tail S1 0 rfl rfl rfl rfl Try.runUnderlying25 Try.sizeOf3 (by omega) ?_
      intro v18 ht19
      refine l_clear (a0 := 0) S1 0 rfl rfl ht19 rfl Try.runUnderlying25 Try.zeroValue3 rfl rfl rfl ?_
      intro w20 S21 hk22
      refine l_nil ?_
      refine r_seq ?_
      refine r_region ?_
      refine l_x rfl (x_mv rfl) ?_
      refine l_x rfl (x_mv rfl) ?_
      refine l_prefix S21 0 rfl rfl rfl rfl Try.runUnderlying25 Try.sizeOf3 (by rw [List.length_append, List.length_take, List.length_replicate]; omega) ?_
      intro v23 S24
      refine l_x rfl (x_as rfl) ?_
      refine l_nil ?_
      refine r_ret (rs := [.tmp 4]) [_] Try.func124 rfl ⟨rfl, trivial⟩ ?_
      have hS := S24
      rw [Int.toNat_natCast, List.take_append_of_le_length (by rw [List.length_take]; omega), List.take_take, Nat.min_self, hI.done] at hS
      exact hS

/-- couchant/flow.listed$1. -/
theorem c_listed1 (x : Int) (w : World) :
    Cl Try.prog 125 #[.int .i64 x] w fun v w' => v = .bool (decide (x = 0)) ∧ Le w w' := by
  refine fn_of_run (args := [_]) 5 Try.func125 rfl rfl rfl fun cs => ?_
  have S := Own.start (X := nob) w
  refine r_seq ?_
  refine r_region ?_
  refine l_x rfl (x_as rfl) ?_
  refine l_nil ?_
  refine r_seq ?_
  refine r_region ?_
  refine l_x rfl (x_mv rfl) ?_
  refine l_x rfl (x_eql rfl rfl) ?_
  refine l_x rfl (x_as rfl) ?_
  refine l_nil ?_
  refine r_ret (rs := [.tmp 2]) [_] Try.func125 rfl ⟨rfl, trivial⟩ ?_
  exact ⟨rfl, S.le⟩

/-- slices.Sort at a slice that is lent. -/
theorem c_Sort (v : Value) (l : List Int) (w : World) (S : Own (vec EI v l).fp w w [vec EI v l]) (hl : l.length < 4611686018427387904) :
    Cl Try.prog 126 #[v] w fun _ w' => Own (vec EI v l).fp w w' [vec EI v (l.mergeSort fun x y => decide (x ≤ y))] := sort_cl Try.slices_Sort_int Try.slices_Sort_int_none S hl
/-- slices.Compact at a slice that is lent. -/
theorem c_Compact (v : Value) (l : List Int) (w : World) (S : Own (vec EI v l).fp w w [vec EI v l]) :
    Cl Try.prog 127 #[v] w fun v' w' => Own (vec EI v l).fp w w' [vec EI v' (Lib.compact l)] := compact_cl Try.slices_Compact_int Try.slices_Compact_int_empty S

/-- couchant/flow.listed. -/
theorem c_listed (v0 : Value) (l : List Int) (hmx : l.length ≤ 1000000) (w : World) (S : Own (vec EI v0 l).fp w w [vec EI v0 l]) :
    Cl Try.prog 80 #[v0] w fun v w' => Own (vec EI v0 l).fp w w' [vec EI v (lst l)] := by
  refine fn_of_run (args := [_]) 9 Try.func80 rfl rfl rfl fun cs => ?_
  refine r_seq ?_
  refine r_region ?_
  refine l_x rfl (x_as rfl) ?_
  refine l_nil ?_
  refine r_seq ?_
  refine r_region ?_
  refine l_x rfl (x_mv rfl) ?_
  refine l_call [] [] [_, _] rfl rfl Try.call124 rfl (c_DeleteFunc _ l (fun x => decide (x = 0)) 125 [] (by omega) _ Try.call125 (fun x _ w1 => c_listed1 x w1) (S.lend 0 rfl)) ?_
  intro v1 w2 hl4
  have S3 := S.back 0 rfl hl4
  refine l_x rfl (x_as rfl) ?_
  refine l_nil ?_
  refine r_seq ?_
  refine r_region ?_
  refine l_x rfl (x_mv rfl) ?_
  refine l_call [] [] [_] rfl rfl Try.call126 rfl (c_Sort _ _ _ (S3.lend 0 rfl) (by have := List.length_filter_le (fun x => !decide (x = 0)) l; omega)) ?_
  intro _ w5 hl7
  have S6 := S3.back 0 rfl hl7
  refine l_nil ?_
  refine r_seq ?_
  refine r_region ?_
  refine l_x rfl (x_mv rfl) ?_
  refine l_call [] [] [_] rfl rfl Try.call127 rfl (c_Compact _ _ _ (S6.lend 0 rfl)) ?_
  intro v8 w9 hl11
  have S10 := S6.back 0 rfl hl11
  refine l_x rfl (x_as rfl) ?_
  refine l_nil ?_
  refine r_ret (rs := [.tmp 2]) [_] Try.func80 rfl ⟨rfl, trivial⟩ ?_
  exact S10

/-- The list of records that a variable holds. -/
abbrev RR (bo : Nat) (l : List Int) (v : Value) : Rsc := pack [blk bo [v] 25, vec EI v l]
theorem rec_end {X : Nat → Prop} {w w' : World} {bo : Nat} {v' : Value} {l' l : List Int} (h : Own X w w' [blk bo [v'] 25, vec EI v' l']) (e : l' = l) : ∃ v', Own X w w' [RR bo l v'] := ⟨v', by subst e; exact h.close⟩

/-- couchant/flow.Records$2. -/
theorem c_Records2 (a : Arc) (h : Bool) (t : List (Arc × Bool)) (bo : Nat) (v0 : Value) (hlen : t.length < 4000) (w : World) (S0 : Own (RR bo (recs t) v0).fp w w [RR bo (recs t) v0]) :
    Cl Try.prog 99 #[.agg a.enc.toArray, .bool h, .pointer (some ⟨bo, 0, none⟩)] w fun v w' => ∃ v', Own (RR bo (recs t) v0).fp w w' [RR bo (recs (t ++ [(a, h)])) v'] := by
  refine fn_of_run (args := [_, _, _]) 21 Try.func99 rfl rfl rfl fun cs => ?_
  have S := S0.open
  refine r_seq ?_
  refine r_region ?_
  refine l_box S rfl rfl ?_
  intro b4 w1 S2 hl3
  refine l_nil ?_
  refine r_block ?_
  refine r_seq ?_
  refine r_region ?_
  refine l_x rfl (x_mv rfl) ?_
  refine l_x rfl (x_as rfl) ?_
  refine l_nil ?_
  refine r_if rfl (fun hc5 => ?_) (fun hc5 => ?_)
  · skip
    refine r_region ?_
    refine l_x rfl (x_load rfl (ld_blk (S2.blk 0 rfl) Try.isAgg25 rfl)) ?_
    refine l_x rfl (x_fieldAddr rfl Try.runUnderlying39 rfl Try.sizeOf3 (by decide)) ?_
    refine l_x rfl (x_load rfl (ld_blk (S2.blk 2 rfl) Try.isAgg3 rfl)) ?_
    refine l_buildSlice EI [_] S2 rfl Try.runUnderlying25 Try.sizeOf3 Try.zeroValue3 rfl ⟨rfl, rfl, trivial⟩ (Nat.le_of_ble_eq_true rfl) ?_
    intro v8 w5 S6 hl7
    refine l_append EI S6 1 rfl rfl rfl rfl (vec_rd (S6.at 3 rfl)) Try.underlying25 info3 rfl rfl rfl (by have := recs_len t; unfold maxLen; simp; omega) (by have := recs_len t; show _ * 8 ≤ _; simp; omega) ?_
    intro v12 w9 S10 hk11 hv13
    refine l_storeq (c' := [_]) (v := v12) S10 0 rfl rfl rfl rfl (Rd.one (vec_rd (S10.at 1 rfl))) Try.sizeOf25 (by simp) rfl ?_
    intro w14 S15 hk16
    refine l_nil ?_
    refine r_inBlock ?_
    refine r_end (rs := []) [] Try.func99 rfl trivial ?_
    exact rec_end (S15.take 2) (by rw [hc5, recs_snoc]; rfl)
  · skip
    refine r_seq ?_
    refine r_region ?_
    refine l_x rfl (x_fieldAddr rfl Try.runUnderlying39 rfl Try.sizeOf3 (by decide)) ?_
    refine l_x rfl (x_load rfl (ld_blk (S2.blk 2 rfl) Try.isAgg3 rfl)) ?_
    refine l_x rfl (x_gtr rfl rfl) ?_
    refine l_x rfl (x_as rfl) ?_
    refine l_nil ?_
    refine r_ifd rfl (fun hc12 => ?_) (fun hc12 => ?_)
    · skip
      refine r_region ?_
      refine l_x rfl (x_load rfl (ld_blk (S2.blk 0 rfl) Try.isAgg25 rfl)) ?_
      refine l_x rfl (x_fieldAddr rfl Try.runUnderlying39 rfl Try.sizeOf3 (by decide)) ?_
      refine l_x rfl (x_load rfl (ld_blk (S2.blk 2 rfl) Try.isAgg3 rfl)) ?_
      refine l_buildSlice EI [_] S2 rfl Try.runUnderlying25 Try.sizeOf3 Try.zeroValue3 rfl ⟨rfl, rfl, trivial⟩ (Nat.le_of_ble_eq_true rfl) ?_
      intro v20 w17 S18 hl19
      refine l_append EI S18 1 rfl rfl rfl rfl (vec_rd (S18.at 3 rfl)) Try.underlying25 info3 rfl rfl rfl (by have := recs_len t; unfold maxLen; simp; omega) (by have := recs_len t; show _ * 8 ≤ _; simp; omega) ?_
      intro v24 w21 S22 hk23 hv25
      refine l_storeq (c' := [_]) (v := v24) S22 0 rfl rfl rfl rfl (Rd.one (vec_rd (S22.at 1 rfl))) Try.sizeOf25 (by simp) rfl ?_
      intro w26 S27 hk28
      refine l_nil ?_
      refine r_inBlock ?_
      refine r_end (rs := []) [] Try.func99 rfl trivial ?_
      exact rec_end (S27.take 2) (by rw [hc5, recs_snoc, rec1, if_pos hc12])
    · skip
      refine r_skip ?_
      refine r_inBlock ?_
      refine r_end (rs := []) [] Try.func99 rfl trivial ?_
      exact rec_end (S2.take 2) (by rw [hc5, recs_snoc, rec1, if_neg hc12, List.append_nil])

/-- couchant/flow.Records$1. -/
theorem c_Records1 (N : Int) (va : Value) (arcs : List Arc) (vw : Value) (wl : List Int) (vp : Value) (p : List Int) (b0 b1 b2 : Nat) (hmwl : wl.length ≤ 9223372036854775807) (hmp : p.length ≤ 9223372036854775807) (w : World) (h0 : Blk w b0 [.int .i64 N, va] 24) (h1 : Blk w b1 [vw] 25) (h2 : Blk w b2 [vp] 25)  (hA : Rd EA w va arcs) (Hwl : Rd EI w vw wl) (Hp : Rd EI w vp p) :
    Cl Try.prog 98 #[.pointer (some ⟨b0, 0, none⟩), .pointer (some ⟨b1, 0, none⟩), .pointer (some ⟨b2, 0, none⟩)] w fun v w' => v = .bool (row wl arcs.length (-1000) 1000 && row p N (-10000000) 10000000) ∧ Le w w' := by
  refine fn_of_run (args := [_, _, _]) 12 Try.func98 rfl rfl rfl fun cs => ?_
  have S := Own.start (X := nob) w
  refine r_seq ?_
  refine r_region ?_
  refine l_x rfl (x_as rfl) ?_
  refine l_nil ?_
  refine r_seq ?_
  refine r_region ?_
  refine l_x rfl (x_load rfl (ld_blks (h0.keep S.le id) Try.isAgg24 Try.sizeOf24 rfl rfl)) ?_
  refine l_x rfl (x_load rfl (ld_blk (h1.keep S.le id) Try.isAgg25 rfl)) ?_
  refine l_call [] [] [_, _] rfl rfl Try.call70 rfl (c_weights N _ arcs _ _ (by omega) _ (hA.le S.le) (Hwl.le S.le)) ?_
  rintro _ w1 ⟨rfl, hl3⟩
  have S2 := S.step hl3
  refine l_x rfl (x_mv rfl) ?_
  refine l_split (d := 7) rfl (fun hg7 => ?_) (fun hg7 => ?_)
  · skip
    refine l_x rfl (x_load rfl (ld_blks (h0.keep S2.le id) Try.isAgg24 Try.sizeOf24 rfl rfl)) ?_
    refine l_x rfl (x_load rfl (ld_blk (h2.keep S2.le id) Try.isAgg25 rfl)) ?_
    refine l_call [] [] [_, _] rfl rfl Try.call89 rfl (c_potentials N _ _ _ (by omega) _ (Hp.le S2.le)) ?_
    rintro _ w4 ⟨rfl, hl6⟩
    have S5 := S2.step hl6
    refine l_x rfl (x_pick_t rfl rfl) ?_
    refine l_x rfl (x_as rfl) ?_
    refine l_nil ?_
    refine r_ret (rs := [.tmp 3]) [_] Try.func98 rfl ⟨rfl, trivial⟩ ?_
    exact ⟨congrArg Value.bool (by simp [*]), S5.le⟩
  · skip
    refine l_pass rfl ?_
    refine l_pass rfl ?_
    refine l_pass rfl ?_
    refine l_x rfl (x_pick_f rfl rfl) ?_
    refine l_x rfl (x_as rfl) ?_
    refine l_nil ?_
    refine r_ret (rs := [.tmp 3]) [_] Try.func98 rfl ⟨rfl, trivial⟩ ?_
    exact ⟨congrArg Value.bool (by simp [*]), S2.le⟩

/-- couchant/flow.Records. -/
theorem c_Records (N : Int) (va : Value) (arcs : List Arc) (vw : Value) (wl : List Int) (vp : Value) (p : List Int) (hmwl : wl.length ≤ 9223372036854775807) (hmp : p.length ≤ 9223372036854775807) (w : World) (hA : Rd EA w va arcs) (Hwl : Rd EI w vw wl) (Hp : Rd EI w vp p) :
    Cl Try.prog 40 #[.agg #[.int .i64 N, va], vw, vp] w fun v w' => ∃ s, v = .tuple #[s, .int .i64 (askd N arcs (row wl arcs.length (-1000) 1000 && row p N (-10000000) 10000000))] ∧ New w w' (vec EI s (if askd N arcs (row wl arcs.length (-1000) 1000 && row p N (-10000000) 10000000) = 0 then lst (recs (told p arcs wl)) else [])) ∧ Le w w' := by
  refine fn_of_run (args := [_, _, _]) 23 Try.func40 rfl rfl rfl fun cs => ?_
  have S := Own.start (X := nob) w
  refine r_seq ?_
  refine r_region ?_
  refine l_box S rfl rfl ?_
  intro b4 w1 S2 hl3
  refine l_box S2 rfl (Rd.cells (Hwl.le S2.le)) ?_
  intro b8 w5 S6 hl7
  refine l_box S6 rfl (Rd.cells (Hp.le S6.le)) ?_
  intro b12 w9 S10 hl11
  refine l_x rfl (x_as rfl) ?_
  refine l_x rfl (x_as rfl) ?_
  refine l_nil ?_
  refine r_seq ?_
  refine r_seq ?_
  refine r_region ?_
  refine l_x rfl (x_load rfl (ld_blks (S10.blk 0 rfl) Try.isAgg24 Try.sizeOf24 rfl rfl)) ?_
  refine l_x rfl (x_func rfl rfl) ?_
  refine l_call [] [] [_, _] rfl rfl Try.call62 rfl (c_asked N va arcs (row wl arcs.length (-1000) 1000 && row p N (-10000000) 10000000) 98 [_, _, _] _ (hA.le S10.le) Try.call98 (fun _ w1 h1 => c_Records1 N va arcs vw wl vp p _ _ _ (by omega) (by omega) w1 ((S10.blk 0 rfl).keep h1 id) ((S10.blk 1 rfl).keep h1 id) ((S10.blk 2 rfl).keep h1 id) (hA.le (S10.le.trans h1)) (Hwl.le (S10.le.trans h1)) (Hp.le (S10.le.trans h1)))) ?_
  rintro _ w13 ⟨rfl, hl15⟩
  have S14 := S10.step hl15
  refine l_x rfl (x_as rfl) ?_
  refine l_nil ?_
  refine r_seq ?_
  refine r_region ?_
  refine l_x rfl (x_mv rfl) ?_
  refine l_x rfl (x_neq rfl rfl) ?_
  refine l_nil ?_
  refine r_ifd rfl (fun hc14 => ?_) (fun hc14 => ?_)
  · skip
    refine r_seq ?_
    refine r_region ?_
    refine l_x rfl (x_mv rfl) ?_
    refine l_x rfl (x_as rfl) ?_
    refine l_x rfl (x_as rfl) ?_
    refine l_nil ?_
    refine r_ret (rs := [.tmp 6, .tmp 7]) [_, _] Try.func40 rfl ⟨rfl, rfl, trivial⟩ ?_
    exact ⟨_, rfl, by rw [if_neg hc14]; exact New.nilvec .., S14.le⟩
  · skip
    have h0 := Decidable.not_not.1 hc14
    obtain ⟨hV, hq⟩ := askd_zero.1 h0
    rw [Bool.and_eq_true] at hq
    have hw := row_wts.1 hq.1
    have hp := row_pts.1 hq.2
    refine r_skip ?_
    refine r_seq ?_
    refine r_region ?_
    refine l_alloc S14 rfl Try.zeroValue25 rfl ?_
    intro b19 w16 S17 hl18
    refine l_nil ?_
    refine r_seq ?_
    refine r_region ?_
    refine l_x rfl (x_load rfl (ld_blks (S17.blk 0 rfl) Try.isAgg24 Try.sizeOf24 rfl rfl)) ?_
    refine l_x rfl (x_load rfl (ld_blk (S17.blk 1 rfl) Try.isAgg25 rfl)) ?_
    refine l_x rfl (x_load rfl (ld_blk (S17.blk 2 rfl) Try.isAgg25 rfl)) ?_
    refine l_x rfl (x_func rfl rfl) ?_
    have Sa := Own.nilvec (E := EI) S17
    have Sb := Own.pack (A := [_, _, _]) (L := [_, _]) Sa
    refine l_call [] [] [_, _, _, _] rfl rfl Try.call90 rfl (c_bound N va arcs vw wl vp p 99 [_] (fun t r => ∃ v, r = RR _ (recs t) v) w hV hw hp Try.call99 (fun t r a h w1 ⟨v, hr⟩ _ hl hS => by subst hr; exact (c_Records2 a h t _ v hl w1 hS).mono fun _ _ ⟨v', h'⟩ => ⟨_, ⟨v', rfl⟩, h'⟩) hA Hwl Hp _ ⟨_, rfl⟩ _ (Sb.lend 3 rfl) S17.le (fun b hb => (Sb.bd 3 _ rfl b hb).2.resolve_right id)) ?_
    rintro _ w20 ⟨rfl, _, ⟨v23, rfl⟩, hback21⟩
    have S22 := Own.unpack (A := [_, _, _]) (L := [_, _]) (Sb.back 3 rfl hback21)
    have hrl := recs_len (told p arcs wl)
    have htl := told_len (p := p) arcs wl
    have hLx := hV.len
    refine l_nil ?_
    refine r_seq ?_
    refine r_region ?_
    refine l_x rfl (x_load rfl (ld_blk (S22.blk 3 rfl) Try.isAgg25 rfl)) ?_
    refine l_call [] [] [_] rfl rfl Try.call80 rfl (c_listed _ _ (by omega) _ (S22.lend 4 rfl)) ?_
    intro v24 w25 hl27
    have S26 := S22.back 4 rfl hl27
    refine l_x rfl (x_as rfl) ?_
    refine l_x rfl (x_as rfl) ?_
    refine l_nil ?_
    refine r_ret (rs := [.tmp 6, .tmp 7]) [_, _] Try.func40 rfl ⟨rfl, rfl, trivial⟩ ?_
    exact ⟨_, congrArg (fun x => Value.tuple #[_, .int .i64 x]) h0.symm, by rw [if_pos h0]; exact S26.new 4 rfl, S26.le⟩

end Go.Proofs
