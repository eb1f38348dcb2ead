/-
  Contracts of functions of the program: each by symbolic execution of its text.
-/
import Derived.Test.YtddapgjjndbejaaF13
import Derived.Test.YtddapgjjndbejaaVkFlowRel
import Derived.Test.YtddapgjjndbejaaVkYoung
namespace Go.Proofs
open Go Go.Vk Go.Vk.Flow

/-- couchant/flow.Some. -/
theorem c_Some (N : Int) (va : Value) (arcs : List Arc) (w : World) (hA : Rd EA w va arcs) :
    Cl Try.prog 43 #[.agg #[.int .i64 N, va]] w fun v w' => ∃ vx x e, v = .tuple #[vx, .int .i64 e] ∧ New w w' (vec EI vx x) ∧ Le w w' ∧ SomeR N arcs x e := by
  refine fn_of_run (args := [_]) 29 Try.func43 rfl rfl rfl fun cs => ?_
  have S := Own.start (X := nob) w
  refine r_seq ?_
  refine r_region ?_
  refine l_box S rfl rfl ?_
  intro b4 w1 S2 hl3
  refine l_x rfl (x_as rfl) ?_
  refine l_x rfl (x_as rfl) ?_
  refine l_nil ?_
  refine r_seq ?_
  refine r_seq ?_
  refine r_region ?_
  refine l_x rfl (x_load rfl (ld_blks (S2.blk 0 rfl) Try.isAgg24 Try.sizeOf24 rfl rfl)) ?_
  refine l_call [] [] [_] rfl rfl Try.call36 rfl (c_Check N va arcs _ (hA.le S2.le)) ?_
  rintro _ w5 ⟨rfl, hl7⟩
  have S6 := S2.step hl7
  refine l_x rfl (x_as rfl) ?_
  refine l_nil ?_
  refine r_seq ?_
  refine r_region ?_
  refine l_x rfl (x_mv rfl) ?_
  refine l_x rfl (x_neq rfl rfl) ?_
  refine l_nil ?_
  refine r_ifd rfl (fun hc11 => ?_) (fun hc11 => ?_)
  · skip
    refine r_seq ?_
    refine r_region ?_
    refine l_x rfl (x_mv rfl) ?_
    refine l_x rfl (x_as rfl) ?_
    refine l_x rfl (x_as rfl) ?_
    refine l_nil ?_
    refine r_ret (rs := [.tmp 2, .tmp 3]) [_, _] Try.func43 rfl ⟨rfl, rfl, trivial⟩ ?_
    exact ⟨_, [], _, rfl, New.nilvec .., S6.le, .bad hc11⟩
  · skip
    have hV := chk_zero.1 (Decidable.not_not.1 hc11)
    have hLx := hV.len
    refine r_skip ?_
    refine r_seq ?_
    refine r_drawE 14 (yng w5) Try.mixed (by kernel_rfl) ?_
    intro w8 hl9
    have S10 := S6.step hl9
    have hy11 : Keep (yng w5) w5 w8 := .of_le hl9
    refine e_exact 0 _ (by kernel_rfl) rfl rfl (by kernel_rfl) rfl (ex_x rfl (fun w1 h1 => x_load rfl (ld_blks ((S6.yng (hy11.trans h1)).blk 0 rfl) Try.isAgg24 Try.sizeOf24 rfl rfl))) ?_
    refine e_exact 1 _ (by kernel_rfl) rfl rfl (by kernel_rfl) rfl (ex_x rfl (fun w1 h1 => x_fieldAddr rfl Try.runUnderlying24 rfl Try.sizeOf22 (by decide))) ?_
    refine e_exact 2 _ (by kernel_rfl) rfl rfl (by kernel_rfl) rfl (ex_x rfl (fun w1 h1 => x_load rfl (ld_blk ((S6.yng (hy11.trans h1)).blk 0 rfl) Try.isAgg22 rfl))) ?_
    refine e_exact 3 _ (by kernel_rfl) rfl rfl (by kernel_rfl) rfl (ex_x rfl (fun w1 h1 => x_len (hA.le (S6.yng (hy11.trans h1)).le) rfl Try.runUnderlying22)) ?_
    refine e_next [4, 10] (by kernel_rfl) (by kernel_rfl) ⟨⟨_, _, rfl, rfl, ?_⟩, ⟨_, _, rfl, rfl, ?_⟩, trivial⟩
    · skip
      refine s_make EI 0 S10 rfl Try.runUnderlying25 Try.sizeOf3 Try.typeInfo3 Try.zeroValue3 rfl rfl rfl rfl (Nat.le_refl _) (by unfold maxLen; omega) (by show _ * 8 ≤ _; omega) ?_
      intro v15 w12 hv16 S13 hl14
      refine ⟨.of_le hl14, ?_⟩
      have hy17 : Keep (yng w5) w5 w12 := hy11.trans (Keep.of_le hl14)
      refine e_next [5, 10] (by kernel_rfl) (by kernel_rfl) ⟨⟨_, _, rfl, rfl, ?_⟩, ⟨_, _, rfl, rfl, ?_⟩, trivial⟩
      · skip
        refine s_callf [] [] [_, _] rfl rfl Try.call71 rfl ((c_best N va arcs _ _ hV (zero_wts arcs) _ (hA.le S13.le) (vec_rd (S13.at 1 rfl))).mono ?_)
        rintro _ w18 (⟨bc1918, vx1918, x1918, mo1918, p1918, rfl, hO1918, hC1918, hmo1918⟩ | ⟨A1918, vn1918, ns1918, rfl, hN1918, hl1918, hh1918⟩)
        · skip
          have S19 := S13.join hO1918
          refine ⟨.of_le hO1918.le, ?_⟩
          have hy20 : Keep (yng w5) w5 w18 := hy17.trans (Keep.of_le hO1918.le)
          refine e_exact 6 _ (by kernel_rfl) rfl rfl (by kernel_rfl) rfl (ex_x rfl (fun w1 h1 => x_mv rfl)) ?_
          refine e_exact 7 _ (by kernel_rfl) rfl rfl (by kernel_rfl) rfl (ex_x rfl (fun w1 h1 => x_extract rfl rfl)) ?_
          refine e_exact 8 _ (by kernel_rfl) rfl rfl (by kernel_rfl) rfl (ex_x rfl (fun w1 h1 => x_extract rfl rfl)) ?_
          refine e_exact 9 _ (by kernel_rfl) rfl rfl (by kernel_rfl) rfl (ex_x rfl (fun w1 h1 => x_extract rfl rfl)) ?_
          refine e_next [10] (by kernel_rfl) (by kernel_rfl) ⟨⟨_, _, rfl, rfl, ?_⟩, trivial⟩
          refine s_allocY S19 rfl Try.zeroValue43 rfl ?_
          intro b24 w21 S22 hl23 hb25
          refine ⟨.of_le hl23, ?_⟩
          have hy26 : Keep (yng w5) w5 w21 := hy20.trans (Keep.of_le hl23)
          refine e_exact 11 _ (by kernel_rfl) rfl rfl (by kernel_rfl) rfl (ex_x rfl (fun w1 h1 => x_as rfl)) ?_
          refine e_next [12] (by kernel_rfl) (by kernel_rfl) ⟨⟨_, _, rfl, rfl, ?_⟩, trivial⟩
          refine s_stores (vs := [_, _]) S22 4 rfl rfl rfl rfl (ones_cons rfl (ones_cons rfl ones_nil)) Try.sizeOf43 (by first | exact Nat.le_refl _ | simp) (splice_all rfl) ?_
          intro w27 S28 hk29
          refine ⟨(yng_blk hy20 hb25 hk29), ?_⟩
          have hy30 : Keep (yng w5) w5 w27 := hy26.trans ((yng_blk hy20 hb25 hk29))
          refine e_exact 13 _ (by kernel_rfl) rfl rfl (by kernel_rfl) rfl (ex_x rfl (fun w1 h1 => x_as rfl)) ?_
          refine e_done (by kernel_rfl) ?_
          refine l_nil ?_
          refine r_seq ?_
          refine r_seq ?_
          refine r_region ?_
          refine l_x rfl (x_mv rfl) ?_
          refine l_x rfl (x_not rfl) ?_
          refine l_nil ?_
          refine r_false rfl ?_
          refine r_skip ?_
          refine r_seq ?_
          refine r_region ?_
          refine l_x rfl (x_mv rfl) ?_
          refine l_x rfl (x_nilCheck rfl) ?_
          refine l_x rfl (x_fieldAddr rfl Try.runUnderlying91 rfl Try.sizeOf25 (by decide)) ?_
          refine l_x rfl (x_load rfl (ld_blk (S28.blk 2 rfl) Try.isAgg25 rfl)) ?_
          refine l_x rfl (x_as rfl) ?_
          refine l_x rfl (x_as rfl) ?_
          refine l_nil ?_
          refine r_ret (rs := [.tmp 2, .tmp 3]) [_, _] Try.func43 rfl ⟨rfl, rfl, trivial⟩ ?_
          exact ⟨_, _, _, rfl, S28.new 3 rfl, S28.le, .yes hV (hC1918.circ hV hmo1918)⟩
        · skip
          have S31 := S13.add hl1918 hN1918
          refine ⟨.of_le hl1918, ?_⟩
          have hy32 : Keep (yng w5) w5 w18 := hy17.trans (Keep.of_le hl1918)
          refine e_exact 6 _ (by kernel_rfl) rfl rfl (by kernel_rfl) rfl (ex_x rfl (fun w1 h1 => x_mv rfl)) ?_
          refine e_exact 7 _ (by kernel_rfl) rfl rfl (by kernel_rfl) rfl (ex_x rfl (fun w1 h1 => x_extract rfl rfl)) ?_
          refine e_exact 8 _ (by kernel_rfl) rfl rfl (by kernel_rfl) rfl (ex_x rfl (fun w1 h1 => x_extract rfl rfl)) ?_
          refine e_exact 9 _ (by kernel_rfl) rfl rfl (by kernel_rfl) rfl (ex_x rfl (fun w1 h1 => x_extract rfl rfl)) ?_
          refine e_next [10] (by kernel_rfl) (by kernel_rfl) ⟨⟨_, _, rfl, rfl, ?_⟩, trivial⟩
          refine s_allocY S31 rfl Try.zeroValue43 rfl ?_
          intro b36 w33 S34 hl35 hb37
          refine ⟨.of_le hl35, ?_⟩
          have hy38 : Keep (yng w5) w5 w33 := hy32.trans (Keep.of_le hl35)
          refine e_exact 11 _ (by kernel_rfl) rfl rfl (by kernel_rfl) rfl (ex_x rfl (fun w1 h1 => x_as rfl)) ?_
          refine e_next [12] (by kernel_rfl) (by kernel_rfl) ⟨⟨_, _, rfl, rfl, ?_⟩, trivial⟩
          refine s_stores (vs := [_, _]) S34 3 rfl rfl rfl rfl (ones_cons rfl (ones_cons (Rd.one (vec_rd (S34.at 2 rfl))) ones_nil)) Try.sizeOf43 (by first | exact Nat.le_refl _ | simp) (splice_all rfl) ?_
          intro w39 S40 hk41
          refine ⟨(yng_blk hy32 hb37 hk41), ?_⟩
          have hy42 : Keep (yng w5) w5 w39 := hy38.trans ((yng_blk hy32 hb37 hk41))
          refine e_exact 13 _ (by kernel_rfl) rfl rfl (by kernel_rfl) rfl (ex_x rfl (fun w1 h1 => x_as rfl)) ?_
          refine e_done (by kernel_rfl) ?_
          refine l_nil ?_
          refine r_seq ?_
          refine r_seq ?_
          refine r_region ?_
          refine l_x rfl (x_mv rfl) ?_
          refine l_x rfl (x_not rfl) ?_
          refine l_nil ?_
          refine r_true rfl ?_
          refine r_seq ?_
          refine r_region ?_
          refine l_x rfl (x_as rfl) ?_
          refine l_x rfl (x_as rfl) ?_
          refine l_nil ?_
          refine r_ret (rs := [.tmp 2, .tmp 3]) [_, _] Try.func43 rfl ⟨rfl, rfl, trivial⟩ ?_
          exact ⟨_, [], _, rfl, New.nilvec .., S40.le, .no hV ⟨_, _, hh1918⟩⟩
      · skip
        refine s_allocY S13 rfl Try.zeroValue43 rfl ?_
        intro b46 w43 S44 hl45 hb47
        refine ⟨.of_le hl45, ?_⟩
        have hy48 : Keep (yng w5) w5 w43 := hy17.trans (Keep.of_le hl45)
        refine e_next [5] (by kernel_rfl) (by kernel_rfl) ⟨⟨_, _, rfl, rfl, ?_⟩, trivial⟩
        refine s_callf [] [] [_, _] rfl rfl Try.call71 rfl ((c_best N va arcs _ _ hV (zero_wts arcs) _ (hA.le S44.le) (vec_rd (S44.at 1 rfl))).mono ?_)
        rintro _ w49 (⟨bc1949, vx1949, x1949, mo1949, p1949, rfl, hO1949, hC1949, hmo1949⟩ | ⟨A1949, vn1949, ns1949, rfl, hN1949, hl1949, hh1949⟩)
        · skip
          have S50 := S44.join hO1949
          refine ⟨.of_le hO1949.le, ?_⟩
          have hy51 : Keep (yng w5) w5 w49 := hy48.trans (Keep.of_le hO1949.le)
          refine e_exact 6 _ (by kernel_rfl) rfl rfl (by kernel_rfl) rfl (ex_x rfl (fun w1 h1 => x_mv rfl)) ?_
          refine e_exact 7 _ (by kernel_rfl) rfl rfl (by kernel_rfl) rfl (ex_x rfl (fun w1 h1 => x_extract rfl rfl)) ?_
          refine e_exact 8 _ (by kernel_rfl) rfl rfl (by kernel_rfl) rfl (ex_x rfl (fun w1 h1 => x_extract rfl rfl)) ?_
          refine e_exact 9 _ (by kernel_rfl) rfl rfl (by kernel_rfl) rfl (ex_x rfl (fun w1 h1 => x_extract rfl rfl)) ?_
          refine e_exact 11 _ (by kernel_rfl) rfl rfl (by kernel_rfl) rfl (ex_x rfl (fun w1 h1 => x_as rfl)) ?_
          refine e_next [12] (by kernel_rfl) (by kernel_rfl) ⟨⟨_, _, rfl, rfl, ?_⟩, trivial⟩
          refine s_stores (vs := [_, _]) S50 2 rfl rfl rfl rfl (ones_cons rfl (ones_cons rfl ones_nil)) Try.sizeOf43 (by first | exact Nat.le_refl _ | simp) (splice_all rfl) ?_
          intro w52 S53 hk54
          refine ⟨(yng_blk hy17 hb47 hk54), ?_⟩
          have hy55 : Keep (yng w5) w5 w52 := hy51.trans ((yng_blk hy17 hb47 hk54))
          refine e_exact 13 _ (by kernel_rfl) rfl rfl (by kernel_rfl) rfl (ex_x rfl (fun w1 h1 => x_as rfl)) ?_
          refine e_done (by kernel_rfl) ?_
          refine l_nil ?_
          refine r_seq ?_
          refine r_seq ?_
          refine r_region ?_
          refine l_x rfl (x_mv rfl) ?_
          refine l_x rfl (x_not rfl) ?_
          refine l_nil ?_
          refine r_false rfl ?_
          refine r_skip ?_
          refine r_seq ?_
          refine r_region ?_
          refine l_x rfl (x_mv rfl) ?_
          refine l_x rfl (x_nilCheck rfl) ?_
          refine l_x rfl (x_fieldAddr rfl Try.runUnderlying91 rfl Try.sizeOf25 (by decide)) ?_
          refine l_x rfl (x_load rfl (ld_blk (S53.blk 3 rfl) Try.isAgg25 rfl)) ?_
          refine l_x rfl (x_as rfl) ?_
          refine l_x rfl (x_as rfl) ?_
          refine l_nil ?_
          refine r_ret (rs := [.tmp 2, .tmp 3]) [_, _] Try.func43 rfl ⟨rfl, rfl, trivial⟩ ?_
          exact ⟨_, _, _, rfl, S53.new 4 rfl, S53.le, .yes hV (hC1949.circ hV hmo1949)⟩
        · skip
          have S56 := S44.add hl1949 hN1949
          refine ⟨.of_le hl1949, ?_⟩
          have hy57 : Keep (yng w5) w5 w49 := hy48.trans (Keep.of_le hl1949)
          refine e_exact 6 _ (by kernel_rfl) rfl rfl (by kernel_rfl) rfl (ex_x rfl (fun w1 h1 => x_mv rfl)) ?_
          refine e_exact 7 _ (by kernel_rfl) rfl rfl (by kernel_rfl) rfl (ex_x rfl (fun w1 h1 => x_extract rfl rfl)) ?_
          refine e_exact 8 _ (by kernel_rfl) rfl rfl (by kernel_rfl) rfl (ex_x rfl (fun w1 h1 => x_extract rfl rfl)) ?_
          refine e_exact 9 _ (by kernel_rfl) rfl rfl (by kernel_rfl) rfl (ex_x rfl (fun w1 h1 => x_extract rfl rfl)) ?_
          refine e_exact 11 _ (by kernel_rfl) rfl rfl (by kernel_rfl) rfl (ex_x rfl (fun w1 h1 => x_as rfl)) ?_
          refine e_next [12] (by kernel_rfl) (by kernel_rfl) ⟨⟨_, _, rfl, rfl, ?_⟩, trivial⟩
          refine s_stores (vs := [_, _]) S56 2 rfl rfl rfl rfl (ones_cons rfl (ones_cons (Rd.one (vec_rd (S56.at 3 rfl))) ones_nil)) Try.sizeOf43 (by first | exact Nat.le_refl _ | simp) (splice_all rfl) ?_
          intro w58 S59 hk60
          refine ⟨(yng_blk hy17 hb47 hk60), ?_⟩
          have hy61 : Keep (yng w5) w5 w58 := hy57.trans ((yng_blk hy17 hb47 hk60))
          refine e_exact 13 _ (by kernel_rfl) rfl rfl (by kernel_rfl) rfl (ex_x rfl (fun w1 h1 => x_as rfl)) ?_
          refine e_done (by kernel_rfl) ?_
          refine l_nil ?_
          refine r_seq ?_
          refine r_seq ?_
          refine r_region ?_
          refine l_x rfl (x_mv rfl) ?_
          refine l_x rfl (x_not rfl) ?_
          refine l_nil ?_
          refine r_true rfl ?_
          refine r_seq ?_
          refine r_region ?_
          refine l_x rfl (x_as rfl) ?_
          refine l_x rfl (x_as rfl) ?_
          refine l_nil ?_
          refine r_ret (rs := [.tmp 2, .tmp 3]) [_, _] Try.func43 rfl ⟨rfl, rfl, trivial⟩ ?_
          exact ⟨_, [], _, rfl, New.nilvec .., S59.le, .no hV ⟨_, _, hh1949⟩⟩
    · skip
      refine s_allocY S10 rfl Try.zeroValue43 rfl ?_
      intro b65 w62 S63 hl64 hb66
      refine ⟨.of_le hl64, ?_⟩
      have hy67 : Keep (yng w5) w5 w62 := hy11.trans (Keep.of_le hl64)
      refine e_next [4] (by kernel_rfl) (by kernel_rfl) ⟨⟨_, _, rfl, rfl, ?_⟩, trivial⟩
      refine s_make EI 0 S63 rfl Try.runUnderlying25 Try.sizeOf3 Try.typeInfo3 Try.zeroValue3 rfl rfl rfl rfl (Nat.le_refl _) (by unfold maxLen; omega) (by show _ * 8 ≤ _; omega) ?_
      intro v71 w68 hv72 S69 hl70
      refine ⟨.of_le hl70, ?_⟩
      have hy73 : Keep (yng w5) w5 w68 := hy67.trans (Keep.of_le hl70)
      refine e_next [5] (by kernel_rfl) (by kernel_rfl) ⟨⟨_, _, rfl, rfl, ?_⟩, trivial⟩
      refine s_callf [] [] [_, _] rfl rfl Try.call71 rfl ((c_best N va arcs _ _ hV (zero_wts arcs) _ (hA.le S69.le) (vec_rd (S69.at 2 rfl))).mono ?_)
      rintro _ w74 (⟨bc1974, vx1974, x1974, mo1974, p1974, rfl, hO1974, hC1974, hmo1974⟩ | ⟨A1974, vn1974, ns1974, rfl, hN1974, hl1974, hh1974⟩)
      · skip
        have S75 := S69.join hO1974
        refine ⟨.of_le hO1974.le, ?_⟩
        have hy76 : Keep (yng w5) w5 w74 := hy73.trans (Keep.of_le hO1974.le)
        refine e_exact 6 _ (by kernel_rfl) rfl rfl (by kernel_rfl) rfl (ex_x rfl (fun w1 h1 => x_mv rfl)) ?_
        refine e_exact 7 _ (by kernel_rfl) rfl rfl (by kernel_rfl) rfl (ex_x rfl (fun w1 h1 => x_extract rfl rfl)) ?_
        refine e_exact 8 _ (by kernel_rfl) rfl rfl (by kernel_rfl) rfl (ex_x rfl (fun w1 h1 => x_extract rfl rfl)) ?_
        refine e_exact 9 _ (by kernel_rfl) rfl rfl (by kernel_rfl) rfl (ex_x rfl (fun w1 h1 => x_extract rfl rfl)) ?_
        refine e_exact 11 _ (by kernel_rfl) rfl rfl (by kernel_rfl) rfl (ex_x rfl (fun w1 h1 => x_as rfl)) ?_
        refine e_next [12] (by kernel_rfl) (by kernel_rfl) ⟨⟨_, _, rfl, rfl, ?_⟩, trivial⟩
        refine s_stores (vs := [_, _]) S75 1 rfl rfl rfl rfl (ones_cons rfl (ones_cons rfl ones_nil)) Try.sizeOf43 (by first | exact Nat.le_refl _ | simp) (splice_all rfl) ?_
        intro w77 S78 hk79
        refine ⟨(yng_blk hy11 hb66 hk79), ?_⟩
        have hy80 : Keep (yng w5) w5 w77 := hy76.trans ((yng_blk hy11 hb66 hk79))
        refine e_exact 13 _ (by kernel_rfl) rfl rfl (by kernel_rfl) rfl (ex_x rfl (fun w1 h1 => x_as rfl)) ?_
        refine e_done (by kernel_rfl) ?_
        refine l_nil ?_
        refine r_seq ?_
        refine r_seq ?_
        refine r_region ?_
        refine l_x rfl (x_mv rfl) ?_
        refine l_x rfl (x_not rfl) ?_
        refine l_nil ?_
        refine r_false rfl ?_
        refine r_skip ?_
        refine r_seq ?_
        refine r_region ?_
        refine l_x rfl (x_mv rfl) ?_
        refine l_x rfl (x_nilCheck rfl) ?_
        refine l_x rfl (x_fieldAddr rfl Try.runUnderlying91 rfl Try.sizeOf25 (by decide)) ?_
        refine l_x rfl (x_load rfl (ld_blk (S78.blk 3 rfl) Try.isAgg25 rfl)) ?_
        refine l_x rfl (x_as rfl) ?_
        refine l_x rfl (x_as rfl) ?_
        refine l_nil ?_
        refine r_ret (rs := [.tmp 2, .tmp 3]) [_, _] Try.func43 rfl ⟨rfl, rfl, trivial⟩ ?_
        exact ⟨_, _, _, rfl, S78.new 4 rfl, S78.le, .yes hV (hC1974.circ hV hmo1974)⟩
      · skip
        have S81 := S69.add hl1974 hN1974
        refine ⟨.of_le hl1974, ?_⟩
        have hy82 : Keep (yng w5) w5 w74 := hy73.trans (Keep.of_le hl1974)
        refine e_exact 6 _ (by kernel_rfl) rfl rfl (by kernel_rfl) rfl (ex_x rfl (fun w1 h1 => x_mv rfl)) ?_
        refine e_exact 7 _ (by kernel_rfl) rfl rfl (by kernel_rfl) rfl (ex_x rfl (fun w1 h1 => x_extract rfl rfl)) ?_
        refine e_exact 8 _ (by kernel_rfl) rfl rfl (by kernel_rfl) rfl (ex_x rfl (fun w1 h1 => x_extract rfl rfl)) ?_
        refine e_exact 9 _ (by kernel_rfl) rfl rfl (by kernel_rfl) rfl (ex_x rfl (fun w1 h1 => x_extract rfl rfl)) ?_
        refine e_exact 11 _ (by kernel_rfl) rfl rfl (by kernel_rfl) rfl (ex_x rfl (fun w1 h1 => x_as rfl)) ?_
        refine e_next [12] (by kernel_rfl) (by kernel_rfl) ⟨⟨_, _, rfl, rfl, ?_⟩, trivial⟩
        refine s_stores (vs := [_, _]) S81 1 rfl rfl rfl rfl (ones_cons rfl (ones_cons (Rd.one (vec_rd (S81.at 3 rfl))) ones_nil)) Try.sizeOf43 (by first | exact Nat.le_refl _ | simp) (splice_all rfl) ?_
        intro w83 S84 hk85
        refine ⟨(yng_blk hy11 hb66 hk85), ?_⟩
        have hy86 : Keep (yng w5) w5 w83 := hy82.trans ((yng_blk hy11 hb66 hk85))
        refine e_exact 13 _ (by kernel_rfl) rfl rfl (by kernel_rfl) rfl (ex_x rfl (fun w1 h1 => x_as rfl)) ?_
        refine e_done (by kernel_rfl) ?_
        refine l_nil ?_
        refine r_seq ?_
        refine r_seq ?_
        refine r_region ?_
        refine l_x rfl (x_mv rfl) ?_
        refine l_x rfl (x_not rfl) ?_
        refine l_nil ?_
        refine r_true rfl ?_
        refine r_seq ?_
        refine r_region ?_
        refine l_x rfl (x_as rfl) ?_
        refine l_x rfl (x_as rfl) ?_
        refine l_nil ?_
        refine r_ret (rs := [.tmp 2, .tmp 3]) [_, _] Try.func43 rfl ⟨rfl, rfl, trivial⟩ ?_
        exact ⟨_, [], _, rfl, New.nilvec .., S84.le, .no hV ⟨_, _, hh1974⟩⟩

/-- couchant/flow.Obstacle. -/
theorem c_Obstacle (N : Int) (va : Value) (arcs : List Arc) (w : World) (hA : Rd EA w va arcs) :
    Cl Try.prog 44 #[.agg #[.int .i64 N, va]] w fun v w' => ∃ A vn ns is e, v = .tuple #[.agg #[.int .i64 A, vn], .bool is, .int .i64 e] ∧ New w w' (vec EI vn ns) ∧ Le w w' ∧ ObsR N arcs A ns is e := by
  refine fn_of_run (args := [_]) 28 Try.func44 rfl rfl rfl fun cs => ?_
  have S := Own.start (X := nob) w
  refine r_seq ?_
  refine r_region ?_
  refine l_box S rfl rfl ?_
  intro b4 w1 S2 hl3
  refine l_alloc S2 rfl Try.zeroValue43 rfl ?_
  intro b8 w5 S6 hl7
  refine l_x rfl (x_as rfl) ?_
  refine l_x rfl (x_as rfl) ?_
  refine l_nil ?_
  refine r_seq ?_
  refine r_seq ?_
  refine r_region ?_
  refine l_x rfl (x_load rfl (ld_blks (S6.blk 0 rfl) Try.isAgg24 Try.sizeOf24 rfl rfl)) ?_
  refine l_call [] [] [_] rfl rfl Try.call36 rfl (c_Check N va arcs _ (hA.le S6.le)) ?_
  rintro _ w9 ⟨rfl, hl11⟩
  have S10 := S6.step hl11
  refine l_x rfl (x_as rfl) ?_
  refine l_nil ?_
  refine r_seq ?_
  refine r_region ?_
  refine l_x rfl (x_mv rfl) ?_
  refine l_x rfl (x_neq rfl rfl) ?_
  refine l_nil ?_
  refine r_ifd rfl (fun hc12 => ?_) (fun hc12 => ?_)
  · skip
    refine r_seq ?_
    refine r_region ?_
    refine l_x rfl (x_buildS (out := [_, _]) (ss := [1, 1]) Try.zeroValue43 rfl Try.runUnderlying43 ⟨Try.sizeOf3, Try.sizeOf25, trivial⟩ fill_nil) ?_
    refine l_x rfl (x_mv rfl) ?_
    refine l_stores (vs := [_, _]) S10 1 rfl rfl rfl rfl (ones_cons rfl (ones_cons rfl ones_nil)) Try.sizeOf43 (by first | exact Nat.le_refl _ | simp) (splice_all rfl) ?_
    intro w12 S13 hk14
    refine l_x rfl (x_as rfl) ?_
    refine l_x rfl (x_as rfl) ?_
    refine l_nil ?_
    refine r_ret (rs := [.cell 2 43, .tmp 3, .tmp 4]) [_, _, _] Try.func44 rfl ⟨⟨_, rfl, (ld_blks (S13.blk 1 rfl) Try.isAgg43 Try.sizeOf43 rfl rfl)⟩, rfl, rfl, trivial⟩ ?_
    exact ⟨_, _, [], _, _, rfl, New.nilvec .., S13.le, .bad hc12⟩
  · skip
    have hV := chk_zero.1 (Decidable.not_not.1 hc12)
    have hLx := hV.len
    refine r_skip ?_
    refine r_seq ?_
    refine r_drawE 14 (yng w9) Try.mixed (by kernel_rfl) ?_
    intro w15 hl16
    have S17 := S10.step hl16
    have hy18 : Keep (yng w9) w9 w15 := .of_le hl16
    refine e_exact 0 _ (by kernel_rfl) rfl rfl (by kernel_rfl) rfl (ex_x rfl (fun w1 h1 => x_load rfl (ld_blks ((S10.yng (hy18.trans h1)).blk 0 rfl) Try.isAgg24 Try.sizeOf24 rfl rfl))) ?_
    refine e_exact 1 _ (by kernel_rfl) rfl rfl (by kernel_rfl) rfl (ex_x rfl (fun w1 h1 => x_fieldAddr rfl Try.runUnderlying24 rfl Try.sizeOf22 (by decide))) ?_
    refine e_exact 2 _ (by kernel_rfl) rfl rfl (by kernel_rfl) rfl (ex_x rfl (fun w1 h1 => x_load rfl (ld_blk ((S10.yng (hy18.trans h1)).blk 0 rfl) Try.isAgg22 rfl))) ?_
    refine e_exact 3 _ (by kernel_rfl) rfl rfl (by kernel_rfl) rfl (ex_x rfl (fun w1 h1 => x_len (hA.le (S10.yng (hy18.trans h1)).le) rfl Try.runUnderlying22)) ?_
    refine e_next [4, 10] (by kernel_rfl) (by kernel_rfl) ⟨⟨_, _, rfl, rfl, ?_⟩, ⟨_, _, rfl, rfl, ?_⟩, trivial⟩
    · skip
      refine s_make EI 0 S17 rfl Try.runUnderlying25 Try.sizeOf3 Try.typeInfo3 Try.zeroValue3 rfl rfl rfl rfl (Nat.le_refl _) (by unfold maxLen; omega) (by show _ * 8 ≤ _; omega) ?_
      intro v22 w19 hv23 S20 hl21
      refine ⟨.of_le hl21, ?_⟩
      have hy24 : Keep (yng w9) w9 w19 := hy18.trans (Keep.of_le hl21)
      refine e_next [5, 10] (by kernel_rfl) (by kernel_rfl) ⟨⟨_, _, rfl, rfl, ?_⟩, ⟨_, _, rfl, rfl, ?_⟩, trivial⟩
      · skip
        refine s_callf [] [] [_, _] rfl rfl Try.call71 rfl ((c_best N va arcs _ _ hV (zero_wts arcs) _ (hA.le S20.le) (vec_rd (S20.at 2 rfl))).mono ?_)
        rintro _ w25 (⟨bc2125, vx2125, x2125, mo2125, p2125, rfl, hO2125, hC2125, hmo2125⟩ | ⟨A2125, vn2125, ns2125, rfl, hN2125, hl2125, hh2125⟩)
        · skip
          have S26 := S20.join hO2125
          refine ⟨.of_le hO2125.le, ?_⟩
          have hy27 : Keep (yng w9) w9 w25 := hy24.trans (Keep.of_le hO2125.le)
          refine e_exact 6 _ (by kernel_rfl) rfl rfl (by kernel_rfl) rfl (ex_x rfl (fun w1 h1 => x_mv rfl)) ?_
          refine e_exact 7 _ (by kernel_rfl) rfl rfl (by kernel_rfl) rfl (ex_x rfl (fun w1 h1 => x_extract rfl rfl)) ?_
          refine e_exact 8 _ (by kernel_rfl) rfl rfl (by kernel_rfl) rfl (ex_x rfl (fun w1 h1 => x_extract rfl rfl)) ?_
          refine e_exact 9 _ (by kernel_rfl) rfl rfl (by kernel_rfl) rfl (ex_x rfl (fun w1 h1 => x_extract rfl rfl)) ?_
          refine e_next [10] (by kernel_rfl) (by kernel_rfl) ⟨⟨_, _, rfl, rfl, ?_⟩, trivial⟩
          refine s_allocY S26 rfl Try.zeroValue43 rfl ?_
          intro b31 w28 S29 hl30 hb32
          refine ⟨.of_le hl30, ?_⟩
          have hy33 : Keep (yng w9) w9 w28 := hy27.trans (Keep.of_le hl30)
          refine e_exact 11 _ (by kernel_rfl) rfl rfl (by kernel_rfl) rfl (ex_x rfl (fun w1 h1 => x_as rfl)) ?_
          refine e_next [12] (by kernel_rfl) (by kernel_rfl) ⟨⟨_, _, rfl, rfl, ?_⟩, trivial⟩
          refine s_stores (vs := [_, _]) S29 5 rfl rfl rfl rfl (ones_cons rfl (ones_cons rfl ones_nil)) Try.sizeOf43 (by first | exact Nat.le_refl _ | simp) (splice_all rfl) ?_
          intro w34 S35 hk36
          refine ⟨(yng_blk hy27 hb32 hk36), ?_⟩
          have hy37 : Keep (yng w9) w9 w34 := hy33.trans ((yng_blk hy27 hb32 hk36))
          refine e_exact 13 _ (by kernel_rfl) rfl rfl (by kernel_rfl) rfl (ex_x rfl (fun w1 h1 => x_as rfl)) ?_
          refine e_done (by kernel_rfl) ?_
          refine l_nil ?_
          refine r_seq ?_
          refine r_region ?_
          refine l_x rfl (x_load rfl (ld_blks (S35.blk 5 rfl) Try.isAgg43 Try.sizeOf43 rfl rfl)) ?_
          refine l_x rfl (x_mv rfl) ?_
          refine l_x rfl (x_not rfl) ?_
          refine l_stores (vs := [_, _]) S35 1 rfl rfl rfl rfl (ones_cons rfl (ones_cons rfl ones_nil)) Try.sizeOf43 (by first | exact Nat.le_refl _ | simp) (splice_all rfl) ?_
          intro w38 S39 hk40
          refine l_x rfl (x_as rfl) ?_
          refine l_x rfl (x_as rfl) ?_
          refine l_nil ?_
          refine r_ret (rs := [.cell 2 43, .tmp 3, .tmp 4]) [_, _, _] Try.func44 rfl ⟨⟨_, rfl, (ld_blks (S39.blk 1 rfl) Try.isAgg43 Try.sizeOf43 rfl rfl)⟩, rfl, rfl, trivial⟩ ?_
          exact ⟨_, _, [], _, _, rfl, New.nilvec .., S39.le, .yes hV (hC2125.circ hV hmo2125)⟩
        · skip
          have S41 := S20.add hl2125 hN2125
          refine ⟨.of_le hl2125, ?_⟩
          have hy42 : Keep (yng w9) w9 w25 := hy24.trans (Keep.of_le hl2125)
          refine e_exact 6 _ (by kernel_rfl) rfl rfl (by kernel_rfl) rfl (ex_x rfl (fun w1 h1 => x_mv rfl)) ?_
          refine e_exact 7 _ (by kernel_rfl) rfl rfl (by kernel_rfl) rfl (ex_x rfl (fun w1 h1 => x_extract rfl rfl)) ?_
          refine e_exact 8 _ (by kernel_rfl) rfl rfl (by kernel_rfl) rfl (ex_x rfl (fun w1 h1 => x_extract rfl rfl)) ?_
          refine e_exact 9 _ (by kernel_rfl) rfl rfl (by kernel_rfl) rfl (ex_x rfl (fun w1 h1 => x_extract rfl rfl)) ?_
          refine e_next [10] (by kernel_rfl) (by kernel_rfl) ⟨⟨_, _, rfl, rfl, ?_⟩, trivial⟩
          refine s_allocY S41 rfl Try.zeroValue43 rfl ?_
          intro b46 w43 S44 hl45 hb47
          refine ⟨.of_le hl45, ?_⟩
          have hy48 : Keep (yng w9) w9 w43 := hy42.trans (Keep.of_le hl45)
          refine e_exact 11 _ (by kernel_rfl) rfl rfl (by kernel_rfl) rfl (ex_x rfl (fun w1 h1 => x_as rfl)) ?_
          refine e_next [12] (by kernel_rfl) (by kernel_rfl) ⟨⟨_, _, rfl, rfl, ?_⟩, trivial⟩
          refine s_stores (vs := [_, _]) S44 4 rfl rfl rfl rfl (ones_cons rfl (ones_cons (Rd.one (vec_rd (S44.at 3 rfl))) ones_nil)) Try.sizeOf43 (by first | exact Nat.le_refl _ | simp) (splice_all rfl) ?_
          intro w49 S50 hk51
          refine ⟨(yng_blk hy42 hb47 hk51), ?_⟩
          have hy52 : Keep (yng w9) w9 w49 := hy48.trans ((yng_blk hy42 hb47 hk51))
          refine e_exact 13 _ (by kernel_rfl) rfl rfl (by kernel_rfl) rfl (ex_x rfl (fun w1 h1 => x_as rfl)) ?_
          refine e_done (by kernel_rfl) ?_
          refine l_nil ?_
          refine r_seq ?_
          refine r_region ?_
          refine l_x rfl (x_load rfl (ld_blks (S50.blk 4 rfl) Try.isAgg43 Try.sizeOf43 rfl rfl)) ?_
          refine l_x rfl (x_mv rfl) ?_
          refine l_x rfl (x_not rfl) ?_
          refine l_stores (vs := [_, _]) S50 1 rfl rfl rfl rfl (ones_cons rfl (ones_cons (Rd.one (vec_rd (S50.at 3 rfl))) ones_nil)) Try.sizeOf43 (by first | exact Nat.le_refl _ | simp) (splice_all rfl) ?_
          intro w53 S54 hk55
          refine l_x rfl (x_as rfl) ?_
          refine l_x rfl (x_as rfl) ?_
          refine l_nil ?_
          refine r_ret (rs := [.cell 2 43, .tmp 3, .tmp 4]) [_, _, _] Try.func44 rfl ⟨⟨_, rfl, (ld_blks (S54.blk 1 rfl) Try.isAgg43 Try.sizeOf43 rfl rfl)⟩, rfl, rfl, trivial⟩ ?_
          exact ⟨_, _, _, _, _, rfl, S54.new 3 rfl, S54.le, .no hV hh2125⟩
      · skip
        refine s_allocY S20 rfl Try.zeroValue43 rfl ?_
        intro b59 w56 S57 hl58 hb60
        refine ⟨.of_le hl58, ?_⟩
        have hy61 : Keep (yng w9) w9 w56 := hy24.trans (Keep.of_le hl58)
        refine e_next [5] (by kernel_rfl) (by kernel_rfl) ⟨⟨_, _, rfl, rfl, ?_⟩, trivial⟩
        refine s_callf [] [] [_, _] rfl rfl Try.call71 rfl ((c_best N va arcs _ _ hV (zero_wts arcs) _ (hA.le S57.le) (vec_rd (S57.at 2 rfl))).mono ?_)
        rintro _ w62 (⟨bc2162, vx2162, x2162, mo2162, p2162, rfl, hO2162, hC2162, hmo2162⟩ | ⟨A2162, vn2162, ns2162, rfl, hN2162, hl2162, hh2162⟩)
        · skip
          have S63 := S57.join hO2162
          refine ⟨.of_le hO2162.le, ?_⟩
          have hy64 : Keep (yng w9) w9 w62 := hy61.trans (Keep.of_le hO2162.le)
          refine e_exact 6 _ (by kernel_rfl) rfl rfl (by kernel_rfl) rfl (ex_x rfl (fun w1 h1 => x_mv rfl)) ?_
          refine e_exact 7 _ (by kernel_rfl) rfl rfl (by kernel_rfl) rfl (ex_x rfl (fun w1 h1 => x_extract rfl rfl)) ?_
          refine e_exact 8 _ (by kernel_rfl) rfl rfl (by kernel_rfl) rfl (ex_x rfl (fun w1 h1 => x_extract rfl rfl)) ?_
          refine e_exact 9 _ (by kernel_rfl) rfl rfl (by kernel_rfl) rfl (ex_x rfl (fun w1 h1 => x_extract rfl rfl)) ?_
          refine e_exact 11 _ (by kernel_rfl) rfl rfl (by kernel_rfl) rfl (ex_x rfl (fun w1 h1 => x_as rfl)) ?_
          refine e_next [12] (by kernel_rfl) (by kernel_rfl) ⟨⟨_, _, rfl, rfl, ?_⟩, trivial⟩
          refine s_stores (vs := [_, _]) S63 3 rfl rfl rfl rfl (ones_cons rfl (ones_cons rfl ones_nil)) Try.sizeOf43 (by first | exact Nat.le_refl _ | simp) (splice_all rfl) ?_
          intro w65 S66 hk67
          refine ⟨(yng_blk hy24 hb60 hk67), ?_⟩
          have hy68 : Keep (yng w9) w9 w65 := hy64.trans ((yng_blk hy24 hb60 hk67))
          refine e_exact 13 _ (by kernel_rfl) rfl rfl (by kernel_rfl) rfl (ex_x rfl (fun w1 h1 => x_as rfl)) ?_
          refine e_done (by kernel_rfl) ?_
          refine l_nil ?_
          refine r_seq ?_
          refine r_region ?_
          refine l_x rfl (x_load rfl (ld_blks (S66.blk 3 rfl) Try.isAgg43 Try.sizeOf43 rfl rfl)) ?_
          refine l_x rfl (x_mv rfl) ?_
          refine l_x rfl (x_not rfl) ?_
          refine l_stores (vs := [_, _]) S66 1 rfl rfl rfl rfl (ones_cons rfl (ones_cons rfl ones_nil)) Try.sizeOf43 (by first | exact Nat.le_refl _ | simp) (splice_all rfl) ?_
          intro w69 S70 hk71
          refine l_x rfl (x_as rfl) ?_
          refine l_x rfl (x_as rfl) ?_
          refine l_nil ?_
          refine r_ret (rs := [.cell 2 43, .tmp 3, .tmp 4]) [_, _, _] Try.func44 rfl ⟨⟨_, rfl, (ld_blks (S70.blk 1 rfl) Try.isAgg43 Try.sizeOf43 rfl rfl)⟩, rfl, rfl, trivial⟩ ?_
          exact ⟨_, _, [], _, _, rfl, New.nilvec .., S70.le, .yes hV (hC2162.circ hV hmo2162)⟩
        · skip
          have S72 := S57.add hl2162 hN2162
          refine ⟨.of_le hl2162, ?_⟩
          have hy73 : Keep (yng w9) w9 w62 := hy61.trans (Keep.of_le hl2162)
          refine e_exact 6 _ (by kernel_rfl) rfl rfl (by kernel_rfl) rfl (ex_x rfl (fun w1 h1 => x_mv rfl)) ?_
          refine e_exact 7 _ (by kernel_rfl) rfl rfl (by kernel_rfl) rfl (ex_x rfl (fun w1 h1 => x_extract rfl rfl)) ?_
          refine e_exact 8 _ (by kernel_rfl) rfl rfl (by kernel_rfl) rfl (ex_x rfl (fun w1 h1 => x_extract rfl rfl)) ?_
          refine e_exact 9 _ (by kernel_rfl) rfl rfl (by kernel_rfl) rfl (ex_x rfl (fun w1 h1 => x_extract rfl rfl)) ?_
          refine e_exact 11 _ (by kernel_rfl) rfl rfl (by kernel_rfl) rfl (ex_x rfl (fun w1 h1 => x_as rfl)) ?_
          refine e_next [12] (by kernel_rfl) (by kernel_rfl) ⟨⟨_, _, rfl, rfl, ?_⟩, trivial⟩
          refine s_stores (vs := [_, _]) S72 3 rfl rfl rfl rfl (ones_cons rfl (ones_cons (Rd.one (vec_rd (S72.at 4 rfl))) ones_nil)) Try.sizeOf43 (by first | exact Nat.le_refl _ | simp) (splice_all rfl) ?_
          intro w74 S75 hk76
          refine ⟨(yng_blk hy24 hb60 hk76), ?_⟩
          have hy77 : Keep (yng w9) w9 w74 := hy73.trans ((yng_blk hy24 hb60 hk76))
          refine e_exact 13 _ (by kernel_rfl) rfl rfl (by kernel_rfl) rfl (ex_x rfl (fun w1 h1 => x_as rfl)) ?_
          refine e_done (by kernel_rfl) ?_
          refine l_nil ?_
          refine r_seq ?_
          refine r_region ?_
          refine l_x rfl (x_load rfl (ld_blks (S75.blk 3 rfl) Try.isAgg43 Try.sizeOf43 rfl rfl)) ?_
          refine l_x rfl (x_mv rfl) ?_
          refine l_x rfl (x_not rfl) ?_
          refine l_stores (vs := [_, _]) S75 1 rfl rfl rfl rfl (ones_cons rfl (ones_cons (Rd.one (vec_rd (S75.at 4 rfl))) ones_nil)) Try.sizeOf43 (by first | exact Nat.le_refl _ | simp) (splice_all rfl) ?_
          intro w78 S79 hk80
          refine l_x rfl (x_as rfl) ?_
          refine l_x rfl (x_as rfl) ?_
          refine l_nil ?_
          refine r_ret (rs := [.cell 2 43, .tmp 3, .tmp 4]) [_, _, _] Try.func44 rfl ⟨⟨_, rfl, (ld_blks (S79.blk 1 rfl) Try.isAgg43 Try.sizeOf43 rfl rfl)⟩, rfl, rfl, trivial⟩ ?_
          exact ⟨_, _, _, _, _, rfl, S79.new 4 rfl, S79.le, .no hV hh2162⟩
    · skip
      refine s_allocY S17 rfl Try.zeroValue43 rfl ?_
      intro b84 w81 S82 hl83 hb85
      refine ⟨.of_le hl83, ?_⟩
      have hy86 : Keep (yng w9) w9 w81 := hy18.trans (Keep.of_le hl83)
      refine e_next [4] (by kernel_rfl) (by kernel_rfl) ⟨⟨_, _, rfl, rfl, ?_⟩, trivial⟩
      refine s_make EI 0 S82 rfl Try.runUnderlying25 Try.sizeOf3 Try.typeInfo3 Try.zeroValue3 rfl rfl rfl rfl (Nat.le_refl _) (by unfold maxLen; omega) (by show _ * 8 ≤ _; omega) ?_
      intro v90 w87 hv91 S88 hl89
      refine ⟨.of_le hl89, ?_⟩
      have hy92 : Keep (yng w9) w9 w87 := hy86.trans (Keep.of_le hl89)
      refine e_next [5] (by kernel_rfl) (by kernel_rfl) ⟨⟨_, _, rfl, rfl, ?_⟩, trivial⟩
      refine s_callf [] [] [_, _] rfl rfl Try.call71 rfl ((c_best N va arcs _ _ hV (zero_wts arcs) _ (hA.le S88.le) (vec_rd (S88.at 3 rfl))).mono ?_)
      rintro _ w93 (⟨bc2193, vx2193, x2193, mo2193, p2193, rfl, hO2193, hC2193, hmo2193⟩ | ⟨A2193, vn2193, ns2193, rfl, hN2193, hl2193, hh2193⟩)
      · skip
        have S94 := S88.join hO2193
        refine ⟨.of_le hO2193.le, ?_⟩
        have hy95 : Keep (yng w9) w9 w93 := hy92.trans (Keep.of_le hO2193.le)
        refine e_exact 6 _ (by kernel_rfl) rfl rfl (by kernel_rfl) rfl (ex_x rfl (fun w1 h1 => x_mv rfl)) ?_
        refine e_exact 7 _ (by kernel_rfl) rfl rfl (by kernel_rfl) rfl (ex_x rfl (fun w1 h1 => x_extract rfl rfl)) ?_
        refine e_exact 8 _ (by kernel_rfl) rfl rfl (by kernel_rfl) rfl (ex_x rfl (fun w1 h1 => x_extract rfl rfl)) ?_
        refine e_exact 9 _ (by kernel_rfl) rfl rfl (by kernel_rfl) rfl (ex_x rfl (fun w1 h1 => x_extract rfl rfl)) ?_
        refine e_exact 11 _ (by kernel_rfl) rfl rfl (by kernel_rfl) rfl (ex_x rfl (fun w1 h1 => x_as rfl)) ?_
        refine e_next [12] (by kernel_rfl) (by kernel_rfl) ⟨⟨_, _, rfl, rfl, ?_⟩, trivial⟩
        refine s_stores (vs := [_, _]) S94 2 rfl rfl rfl rfl (ones_cons rfl (ones_cons rfl ones_nil)) Try.sizeOf43 (by first | exact Nat.le_refl _ | simp) (splice_all rfl) ?_
        intro w96 S97 hk98
        refine ⟨(yng_blk hy18 hb85 hk98), ?_⟩
        have hy99 : Keep (yng w9) w9 w96 := hy95.trans ((yng_blk hy18 hb85 hk98))
        refine e_exact 13 _ (by kernel_rfl) rfl rfl (by kernel_rfl) rfl (ex_x rfl (fun w1 h1 => x_as rfl)) ?_
        refine e_done (by kernel_rfl) ?_
        refine l_nil ?_
        refine r_seq ?_
        refine r_region ?_
        refine l_x rfl (x_load rfl (ld_blks (S97.blk 2 rfl) Try.isAgg43 Try.sizeOf43 rfl rfl)) ?_
        refine l_x rfl (x_mv rfl) ?_
        refine l_x rfl (x_not rfl) ?_
        refine l_stores (vs := [_, _]) S97 1 rfl rfl rfl rfl (ones_cons rfl (ones_cons rfl ones_nil)) Try.sizeOf43 (by first | exact Nat.le_refl _ | simp) (splice_all rfl) ?_
        intro w100 S101 hk102
        refine l_x rfl (x_as rfl) ?_
        refine l_x rfl (x_as rfl) ?_
        refine l_nil ?_
        refine r_ret (rs := [.cell 2 43, .tmp 3, .tmp 4]) [_, _, _] Try.func44 rfl ⟨⟨_, rfl, (ld_blks (S101.blk 1 rfl) Try.isAgg43 Try.sizeOf43 rfl rfl)⟩, rfl, rfl, trivial⟩ ?_
        exact ⟨_, _, [], _, _, rfl, New.nilvec .., S101.le, .yes hV (hC2193.circ hV hmo2193)⟩
      · skip
        have S103 := S88.add hl2193 hN2193
        refine ⟨.of_le hl2193, ?_⟩
        have hy104 : Keep (yng w9) w9 w93 := hy92.trans (Keep.of_le hl2193)
        refine e_exact 6 _ (by kernel_rfl) rfl rfl (by kernel_rfl) rfl (ex_x rfl (fun w1 h1 => x_mv rfl)) ?_
        refine e_exact 7 _ (by kernel_rfl) rfl rfl (by kernel_rfl) rfl (ex_x rfl (fun w1 h1 => x_extract rfl rfl)) ?_
        refine e_exact 8 _ (by kernel_rfl) rfl rfl (by kernel_rfl) rfl (ex_x rfl (fun w1 h1 => x_extract rfl rfl)) ?_
        refine e_exact 9 _ (by kernel_rfl) rfl rfl (by kernel_rfl) rfl (ex_x rfl (fun w1 h1 => x_extract rfl rfl)) ?_
        refine e_exact 11 _ (by kernel_rfl) rfl rfl (by kernel_rfl) rfl (ex_x rfl (fun w1 h1 => x_as rfl)) ?_
        refine e_next [12] (by kernel_rfl) (by kernel_rfl) ⟨⟨_, _, rfl, rfl, ?_⟩, trivial⟩
        refine s_stores (vs := [_, _]) S103 2 rfl rfl rfl rfl (ones_cons rfl (ones_cons (Rd.one (vec_rd (S103.at 4 rfl))) ones_nil)) Try.sizeOf43 (by first | exact Nat.le_refl _ | simp) (splice_all rfl) ?_
        intro w105 S106 hk107
        refine ⟨(yng_blk hy18 hb85 hk107), ?_⟩
        have hy108 : Keep (yng w9) w9 w105 := hy104.trans ((yng_blk hy18 hb85 hk107))
        refine e_exact 13 _ (by kernel_rfl) rfl rfl (by kernel_rfl) rfl (ex_x rfl (fun w1 h1 => x_as rfl)) ?_
        refine e_done (by kernel_rfl) ?_
        refine l_nil ?_
        refine r_seq ?_
        refine r_region ?_
        refine l_x rfl (x_load rfl (ld_blks (S106.blk 2 rfl) Try.isAgg43 Try.sizeOf43 rfl rfl)) ?_
        refine l_x rfl (x_mv rfl) ?_
        refine l_x rfl (x_not rfl) ?_
        refine l_stores (vs := [_, _]) S106 1 rfl rfl rfl rfl (ones_cons rfl (ones_cons (Rd.one (vec_rd (S106.at 4 rfl))) ones_nil)) Try.sizeOf43 (by first | exact Nat.le_refl _ | simp) (splice_all rfl) ?_
        intro w109 S110 hk111
        refine l_x rfl (x_as rfl) ?_
        refine l_x rfl (x_as rfl) ?_
        refine l_nil ?_
        refine r_ret (rs := [.cell 2 43, .tmp 3, .tmp 4]) [_, _, _] Try.func44 rfl ⟨⟨_, rfl, (ld_blks (S110.blk 1 rfl) Try.isAgg43 Try.sizeOf43 rfl rfl)⟩, rfl, rfl, trivial⟩ ?_
        exact ⟨_, _, _, _, _, rfl, S110.new 4 rfl, S110.le, .no hV hh2193⟩

/-- couchant/flow.Greatest$1. -/
theorem c_Greatest1 (N : Int) (va : Value) (arcs : List Arc) (vw : Value) (wl : List Int) (b0 b1 : Nat) (hmwl : wl.length ≤ 9223372036854775807) (w : World) (h0 : Blk w b0 [.int .i64 N, va] 24) (h1 : Blk w b1 [vw] 25)  (hA : Rd EA w va arcs) (Hwl : Rd EI w vw wl) :
    Cl Try.prog 69 #[.pointer (some ⟨b0, 0, none⟩), .pointer (some ⟨b1, 0, none⟩)] w fun v w' => v = .bool (row wl arcs.length (-1000) 1000) ∧ Le w w' := by
  refine fn_of_run (args := [_, _]) 6 Try.func69 rfl rfl rfl fun cs => ?_
  have S := Own.start (X := nob) w
  refine r_seq ?_
  refine r_region ?_
  refine l_x rfl (x_as rfl) ?_
  refine l_nil ?_
  refine r_seq ?_
  refine r_region ?_
  refine l_x rfl (x_load rfl (ld_blks (h0.keep S.le id) Try.isAgg24 Try.sizeOf24 rfl rfl)) ?_
  refine l_x rfl (x_load rfl (ld_blk (h1.keep S.le id) Try.isAgg25 rfl)) ?_
  refine l_call [] [] [_, _] rfl rfl Try.call70 rfl (c_weights N _ arcs _ _ (by omega) _ (hA.le S.le) (Hwl.le S.le)) ?_
  rintro _ w1 ⟨rfl, hl3⟩
  have S2 := S.step hl3
  refine l_x rfl (x_as rfl) ?_
  refine l_nil ?_
  refine r_ret (rs := [.tmp 2]) [_] Try.func69 rfl ⟨rfl, trivial⟩ ?_
  exact ⟨congrArg Value.bool (by simp [*]), S2.le⟩

/-- couchant/flow.Greatest. -/
theorem c_Greatest (N : Int) (va : Value) (arcs : List Arc) (vw : Value) (wl : List Int) (hmwl : wl.length ≤ 9223372036854775807) (w : World) (hA : Rd EA w va arcs) (Hwl : Rd EI w vw wl) :
    Cl Try.prog 22 #[.agg #[.int .i64 N, va], vw] w fun v w' => ∃ n vx x vp p e, v = .tuple #[.int .i64 n, vx, vp, .int .i64 e] ∧ Own nob w w' [vec EI vx x, vec EI vp p] ∧ GrR N arcs wl n x p e := by
  refine fn_of_run (args := [_, _]) 39 Try.func22 rfl rfl rfl fun cs => ?_
  have S := Own.start (X := nob) w
  refine r_seq ?_
  refine r_region ?_
  refine l_box S rfl rfl ?_
  intro b4 w1 S2 hl3
  refine l_box S2 rfl (Rd.cells (Hwl.le S2.le)) ?_
  intro b8 w5 S6 hl7
  refine l_x rfl (x_as rfl) ?_
  refine l_x rfl (x_as rfl) ?_
  refine l_x rfl (x_as rfl) ?_
  refine l_x rfl (x_as rfl) ?_
  refine l_nil ?_
  refine r_seq ?_
  refine r_seq ?_
  refine r_region ?_
  refine l_x rfl (x_load rfl (ld_blks (S6.blk 0 rfl) Try.isAgg24 Try.sizeOf24 rfl rfl)) ?_
  refine l_x rfl (x_func rfl rfl) ?_
  refine l_call [] [] [_, _] rfl rfl Try.call62 rfl (c_asked N va arcs (row wl arcs.length (-1000) 1000) 69 [_, _] _ (hA.le S6.le) Try.call69 (fun _ w1 h1 => c_Greatest1 N va arcs vw wl _ _ (by omega) w1 ((S6.blk 0 rfl).keep h1 id) ((S6.blk 1 rfl).keep h1 id) (hA.le (S6.le.trans h1)) (Hwl.le (S6.le.trans h1)))) ?_
  rintro _ w9 ⟨rfl, hl11⟩
  have S10 := S6.step hl11
  refine l_x rfl (x_as rfl) ?_
  refine l_nil ?_
  refine r_seq ?_
  refine r_region ?_
  refine l_x rfl (x_mv rfl) ?_
  refine l_x rfl (x_neq rfl rfl) ?_
  refine l_nil ?_
  refine r_ifd rfl (fun hc16 => ?_) (fun hc16 => ?_)
  · skip
    refine r_seq ?_
    refine r_region ?_
    refine l_x rfl (x_mv rfl) ?_
    refine l_x rfl (x_as rfl) ?_
    refine l_x rfl (x_as rfl) ?_
    refine l_x rfl (x_as rfl) ?_
    refine l_x rfl (x_as rfl) ?_
    refine l_nil ?_
    refine r_ret (rs := [.tmp 4, .tmp 5, .tmp 6, .tmp 7]) [_, _, _, _] Try.func22 rfl ⟨rfl, rfl, rfl, rfl, trivial⟩ ?_
    exact ⟨_, _, [], _, [], _, rfl, (S10.nilvec (E := EI)).nilvec (E := EI) |>.pick [2, 3] (by decide) rfl, .bad hc16⟩
  · skip
    have h0 := Decidable.not_not.1 hc16
    obtain ⟨hV, hw0⟩ := askw_zero.1 h0
    have hLx := hV.len
    refine r_skip ?_
    refine r_seq ?_
    refine r_region ?_
    refine l_x rfl (x_load rfl (ld_blks (S10.blk 0 rfl) Try.isAgg24 Try.sizeOf24 rfl rfl)) ?_
    refine l_x rfl (x_load rfl (ld_blk (S10.blk 1 rfl) Try.isAgg25 rfl)) ?_
    refine l_call [] [] [_, _] rfl rfl Try.call71 rfl (c_best N va arcs _ _ hV hw0 _ (hA.le S10.le) (Hwl.le S10.le)) ?_
    rintro _ w12 (⟨bc2112, vx2112, x2112, mo2112, p2112, rfl, hO2112, hC2112, hmo2112⟩ | ⟨A2112, vn2112, ns2112, rfl, hN2112, hl2112, hh2112⟩)
    · skip
      have S13 := S10.join hO2112
      refine l_x rfl (x_mv rfl) ?_
      refine l_x rfl (x_extract rfl rfl) ?_
      refine l_x rfl (x_extract rfl rfl) ?_
      refine l_x rfl (x_extract rfl rfl) ?_
      refine l_alloc S13 rfl Try.zeroValue43 rfl ?_
      intro b17 w14 S15 hl16
      refine l_x rfl (x_as rfl) ?_
      refine l_stores (vs := [_, _]) S15 4 rfl rfl rfl rfl (ones_cons rfl (ones_cons rfl ones_nil)) Try.sizeOf43 (by first | exact Nat.le_refl _ | simp) (splice_all rfl) ?_
      intro w18 S19 hk20
      refine l_x rfl (x_as rfl) ?_
      refine l_nil ?_
      refine r_seq ?_
      refine r_seq ?_
      refine r_region ?_
      refine l_x rfl (x_mv rfl) ?_
      refine l_x rfl (x_not rfl) ?_
      refine l_nil ?_
      refine r_false rfl ?_
      refine r_skip ?_
      refine r_seq ?_
      have S21 := S19.pick (L' := [_, _, _, _, _]) [0, 1, 4, 2, 3] (by decide) rfl
      have hcirc := hC2112.circ hV hmo2112
      have hxA := hcirc.amts hV
      refine r_drawE 16 (Rsc.fp (pack [blk bc2112 (carC N va vx2112 vw mo2112 p2112) 91, vec EI vx2112 x2112])) Try.mixed (by kernel_rfl) ?_
      intro w22 hl23
      have S24 := S21.step hl23
      refine e_exact 0 _ (by kernel_rfl) rfl rfl (by kernel_rfl) rfl (ex_x rfl (fun w1 h1 => x_load rfl (ld_blk (((Own.pack (A := [_, _, _]) (L := [_, _]) S24).under 3 rfl h1).blk 1 rfl) Try.isAgg25 rfl))) ?_
      refine e_exact 1 _ (by kernel_rfl) rfl rfl (by kernel_rfl) rfl (ex_x rfl (fun w1 h1 => x_mv rfl)) ?_
      refine e_exact 2 _ (by kernel_rfl) rfl rfl (by kernel_rfl) rfl (ex_x rfl (fun w1 h1 => x_nilCheck rfl)) ?_
      refine e_exact 3 _ (by kernel_rfl) rfl rfl (by kernel_rfl) rfl (ex_x rfl (fun w1 h1 => x_fieldAddr rfl Try.runUnderlying91 rfl Try.sizeOf25 (by decide))) ?_
      refine e_exact 6 _ (by kernel_rfl) rfl rfl (by kernel_rfl) rfl (ex_x rfl (fun w1 h1 => x_mv rfl)) ?_
      refine e_exact 7 _ (by kernel_rfl) rfl rfl (by kernel_rfl) rfl (ex_x rfl (fun w1 h1 => x_nilCheck rfl)) ?_
      refine e_exact 8 _ (by kernel_rfl) rfl rfl (by kernel_rfl) rfl (ex_x rfl (fun w1 h1 => x_fieldAddr rfl Try.runUnderlying91 rfl Try.sizeOf25 (by decide))) ?_
      refine e_exact 10 _ (by kernel_rfl) rfl rfl (by kernel_rfl) rfl (ex_x rfl (fun w1 h1 => x_mv rfl)) ?_
      refine e_next [4, 9] (by kernel_rfl) (by kernel_rfl) ⟨⟨_, _, rfl, rfl, ?_⟩, ⟨_, _, rfl, rfl, ?_⟩, trivial⟩
      · skip
        refine s_x rfl (x_load rfl (ld_blk (S24.blk 3 rfl) Try.isAgg25 rfl)) ?_
        refine ⟨Keep.refl _ _, ?_⟩
        refine e_next [5, 9] (by kernel_rfl) (by kernel_rfl) ⟨⟨_, _, rfl, rfl, ?_⟩, ⟨_, _, rfl, rfl, ?_⟩, trivial⟩
        · skip
          refine s_callf [] [] [_, _] rfl rfl Try.call72 rfl ((c_sum arcs N _ _ _ _ hV hw0 hxA _ (Hwl.le S24.le) (vec_rd (S24.at 4 rfl))).mono ?_)
          rintro _ w25 ⟨rfl, hl3225⟩
          have S26 := S24.step hl3225
          refine ⟨.of_le hl3225, ?_⟩
          refine e_next [9, 11] (by kernel_rfl) (by kernel_rfl) ⟨⟨_, _, rfl, rfl, ?_⟩, ⟨_, _, rfl, rfl, ?_⟩, trivial⟩
          · skip
            refine s_x rfl (x_load rfl (ld_blk (S26.blk 3 rfl) Try.isAgg25 rfl)) ?_
            refine ⟨Keep.refl _ _, ?_⟩
            refine e_next [11] (by kernel_rfl) (by kernel_rfl) ⟨⟨_, _, rfl, rfl, ?_⟩, trivial⟩
            refine s_callf [] [] [_] rfl rfl Try.call73 rfl ((c_shown N va arcs vx2112 x2112 vw wl mo2112 p2112 hV hw0 hC2112 bc2112 _ w (fun b hb => ((Own.pack (A := [_, _, _]) (L := [_, _]) S26).bd 3 _ rfl b hb).2.resolve_right id) hA Hwl _ (((Own.pack (A := [_, _, _]) (L := [_, _]) S26).lend 3 rfl).open) S26.le).mono ?_)
            rintro v3827 w27 ⟨q3827, hO3827, hP3827, hS3827⟩
            have S28 := Own.unpack (A := [_, _, _]) (L := [_, _, _]) ((Own.pack (A := [_, _, _]) (L := [_, _]) S26).back 3 rfl hO3827.close)
            refine ⟨hO3827.keep, ?_⟩
            refine e_exact 12 _ (by kernel_rfl) rfl rfl (by kernel_rfl) rfl (ex_x rfl (fun w1 h1 => x_as rfl)) ?_
            refine e_exact 13 _ (by kernel_rfl) rfl rfl (by kernel_rfl) rfl (ex_x rfl (fun w1 h1 => x_as rfl)) ?_
            refine e_exact 14 _ (by kernel_rfl) rfl rfl (by kernel_rfl) rfl (ex_x rfl (fun w1 h1 => x_as rfl)) ?_
            refine e_exact 15 _ (by kernel_rfl) rfl rfl (by kernel_rfl) rfl (ex_x rfl (fun w1 h1 => x_as rfl)) ?_
            refine e_done (by kernel_rfl) ?_
            refine l_nil ?_
            refine r_ret (rs := [.tmp 4, .tmp 5, .tmp 6, .tmp 7]) [_, _, _, _] Try.func22 rfl ⟨rfl, rfl, rfl, rfl, trivial⟩ ?_
            exact ⟨_, _, _, _, _, _, rfl, S28.pick [4, 5] (by decide) rfl, .yes hV hw0 ⟨hcirc, hP3827, hS3827⟩⟩
          · skip
            refine s_callf [] [] [_] rfl rfl Try.call73 rfl ((c_shown N va arcs vx2112 x2112 vw wl mo2112 p2112 hV hw0 hC2112 bc2112 _ w (fun b hb => ((Own.pack (A := [_, _, _]) (L := [_, _]) S26).bd 3 _ rfl b hb).2.resolve_right id) hA Hwl _ (((Own.pack (A := [_, _, _]) (L := [_, _]) S26).lend 3 rfl).open) S26.le).mono ?_)
            rintro v3829 w29 ⟨q3829, hO3829, hP3829, hS3829⟩
            have S30 := Own.unpack (A := [_, _, _]) (L := [_, _, _]) ((Own.pack (A := [_, _, _]) (L := [_, _]) S26).back 3 rfl hO3829.close)
            refine ⟨hO3829.keep, ?_⟩
            refine e_exact 12 _ (by kernel_rfl) rfl rfl (by kernel_rfl) rfl (ex_x rfl (fun w1 h1 => x_as rfl)) ?_
            refine e_next [9] (by kernel_rfl) (by kernel_rfl) ⟨⟨_, _, rfl, rfl, ?_⟩, trivial⟩
            refine s_x rfl (x_load rfl (ld_blk (S30.blk 3 rfl) Try.isAgg25 rfl)) ?_
            refine ⟨Keep.refl _ _, ?_⟩
            refine e_exact 13 _ (by kernel_rfl) rfl rfl (by kernel_rfl) rfl (ex_x rfl (fun w1 h1 => x_as rfl)) ?_
            refine e_exact 14 _ (by kernel_rfl) rfl rfl (by kernel_rfl) rfl (ex_x rfl (fun w1 h1 => x_as rfl)) ?_
            refine e_exact 15 _ (by kernel_rfl) rfl rfl (by kernel_rfl) rfl (ex_x rfl (fun w1 h1 => x_as rfl)) ?_
            refine e_done (by kernel_rfl) ?_
            refine l_nil ?_
            refine r_ret (rs := [.tmp 4, .tmp 5, .tmp 6, .tmp 7]) [_, _, _, _] Try.func22 rfl ⟨rfl, rfl, rfl, rfl, trivial⟩ ?_
            exact ⟨_, _, _, _, _, _, rfl, S30.pick [4, 5] (by decide) rfl, .yes hV hw0 ⟨hcirc, hP3829, hS3829⟩⟩
        · skip
          refine s_x rfl (x_load rfl (ld_blk (S24.blk 3 rfl) Try.isAgg25 rfl)) ?_
          refine ⟨Keep.refl _ _, ?_⟩
          refine e_next [5] (by kernel_rfl) (by kernel_rfl) ⟨⟨_, _, rfl, rfl, ?_⟩, trivial⟩
          refine s_callf [] [] [_, _] rfl rfl Try.call72 rfl ((c_sum arcs N _ _ _ _ hV hw0 hxA _ (Hwl.le S24.le) (vec_rd (S24.at 4 rfl))).mono ?_)
          rintro _ w31 ⟨rfl, hl3231⟩
          have S32 := S24.step hl3231
          refine ⟨.of_le hl3231, ?_⟩
          refine e_next [11] (by kernel_rfl) (by kernel_rfl) ⟨⟨_, _, rfl, rfl, ?_⟩, trivial⟩
          refine s_callf [] [] [_] rfl rfl Try.call73 rfl ((c_shown N va arcs vx2112 x2112 vw wl mo2112 p2112 hV hw0 hC2112 bc2112 _ w (fun b hb => ((Own.pack (A := [_, _, _]) (L := [_, _]) S32).bd 3 _ rfl b hb).2.resolve_right id) hA Hwl _ (((Own.pack (A := [_, _, _]) (L := [_, _]) S32).lend 3 rfl).open) S32.le).mono ?_)
          rintro v3833 w33 ⟨q3833, hO3833, hP3833, hS3833⟩
          have S34 := Own.unpack (A := [_, _, _]) (L := [_, _, _]) ((Own.pack (A := [_, _, _]) (L := [_, _]) S32).back 3 rfl hO3833.close)
          refine ⟨hO3833.keep, ?_⟩
          refine e_exact 12 _ (by kernel_rfl) rfl rfl (by kernel_rfl) rfl (ex_x rfl (fun w1 h1 => x_as rfl)) ?_
          refine e_exact 13 _ (by kernel_rfl) rfl rfl (by kernel_rfl) rfl (ex_x rfl (fun w1 h1 => x_as rfl)) ?_
          refine e_exact 14 _ (by kernel_rfl) rfl rfl (by kernel_rfl) rfl (ex_x rfl (fun w1 h1 => x_as rfl)) ?_
          refine e_exact 15 _ (by kernel_rfl) rfl rfl (by kernel_rfl) rfl (ex_x rfl (fun w1 h1 => x_as rfl)) ?_
          refine e_done (by kernel_rfl) ?_
          refine l_nil ?_
          refine r_ret (rs := [.tmp 4, .tmp 5, .tmp 6, .tmp 7]) [_, _, _, _] Try.func22 rfl ⟨rfl, rfl, rfl, rfl, trivial⟩ ?_
          exact ⟨_, _, _, _, _, _, rfl, S34.pick [4, 5] (by decide) rfl, .yes hV hw0 ⟨hcirc, hP3833, hS3833⟩⟩
      · skip
        refine s_x rfl (x_load rfl (ld_blk (S24.blk 3 rfl) Try.isAgg25 rfl)) ?_
        refine ⟨Keep.refl _ _, ?_⟩
        refine e_next [4] (by kernel_rfl) (by kernel_rfl) ⟨⟨_, _, rfl, rfl, ?_⟩, trivial⟩
        refine s_x rfl (x_load rfl (ld_blk (S24.blk 3 rfl) Try.isAgg25 rfl)) ?_
        refine ⟨Keep.refl _ _, ?_⟩
        refine e_next [5] (by kernel_rfl) (by kernel_rfl) ⟨⟨_, _, rfl, rfl, ?_⟩, trivial⟩
        refine s_callf [] [] [_, _] rfl rfl Try.call72 rfl ((c_sum arcs N _ _ _ _ hV hw0 hxA _ (Hwl.le S24.le) (vec_rd (S24.at 4 rfl))).mono ?_)
        rintro _ w35 ⟨rfl, hl3235⟩
        have S36 := S24.step hl3235
        refine ⟨.of_le hl3235, ?_⟩
        refine e_next [11] (by kernel_rfl) (by kernel_rfl) ⟨⟨_, _, rfl, rfl, ?_⟩, trivial⟩
        refine s_callf [] [] [_] rfl rfl Try.call73 rfl ((c_shown N va arcs vx2112 x2112 vw wl mo2112 p2112 hV hw0 hC2112 bc2112 _ w (fun b hb => ((Own.pack (A := [_, _, _]) (L := [_, _]) S36).bd 3 _ rfl b hb).2.resolve_right id) hA Hwl _ (((Own.pack (A := [_, _, _]) (L := [_, _]) S36).lend 3 rfl).open) S36.le).mono ?_)
        rintro v3837 w37 ⟨q3837, hO3837, hP3837, hS3837⟩
        have S38 := Own.unpack (A := [_, _, _]) (L := [_, _, _]) ((Own.pack (A := [_, _, _]) (L := [_, _]) S36).back 3 rfl hO3837.close)
        refine ⟨hO3837.keep, ?_⟩
        refine e_exact 12 _ (by kernel_rfl) rfl rfl (by kernel_rfl) rfl (ex_x rfl (fun w1 h1 => x_as rfl)) ?_
        refine e_exact 13 _ (by kernel_rfl) rfl rfl (by kernel_rfl) rfl (ex_x rfl (fun w1 h1 => x_as rfl)) ?_
        refine e_exact 14 _ (by kernel_rfl) rfl rfl (by kernel_rfl) rfl (ex_x rfl (fun w1 h1 => x_as rfl)) ?_
        refine e_exact 15 _ (by kernel_rfl) rfl rfl (by kernel_rfl) rfl (ex_x rfl (fun w1 h1 => x_as rfl)) ?_
        refine e_done (by kernel_rfl) ?_
        refine l_nil ?_
        refine r_ret (rs := [.tmp 4, .tmp 5, .tmp 6, .tmp 7]) [_, _, _, _] Try.func22 rfl ⟨rfl, rfl, rfl, rfl, trivial⟩ ?_
        exact ⟨_, _, _, _, _, _, rfl, S38.pick [4, 5] (by decide) rfl, .yes hV hw0 ⟨hcirc, hP3837, hS3837⟩⟩
    · skip
      have S39 := S10.add hl2112 hN2112
      refine l_x rfl (x_mv rfl) ?_
      refine l_x rfl (x_extract rfl rfl) ?_
      refine l_x rfl (x_extract rfl rfl) ?_
      refine l_x rfl (x_extract rfl rfl) ?_
      refine l_alloc S39 rfl Try.zeroValue43 rfl ?_
      intro b43 w40 S41 hl42
      refine l_x rfl (x_as rfl) ?_
      refine l_stores (vs := [_, _]) S41 3 rfl rfl rfl rfl (ones_cons rfl (ones_cons (Rd.one (vec_rd (S41.at 2 rfl))) ones_nil)) Try.sizeOf43 (by first | exact Nat.le_refl _ | simp) (splice_all rfl) ?_
      intro w44 S45 hk46
      refine l_x rfl (x_as rfl) ?_
      refine l_nil ?_
      refine r_seq ?_
      refine r_seq ?_
      refine r_region ?_
      refine l_x rfl (x_mv rfl) ?_
      refine l_x rfl (x_not rfl) ?_
      refine l_nil ?_
      refine r_true rfl ?_
      refine r_seq ?_
      refine r_region ?_
      refine l_x rfl (x_as rfl) ?_
      refine l_x rfl (x_as rfl) ?_
      refine l_x rfl (x_as rfl) ?_
      refine l_x rfl (x_as rfl) ?_
      refine l_nil ?_
      refine r_ret (rs := [.tmp 4, .tmp 5, .tmp 6, .tmp 7]) [_, _, _, _] Try.func22 rfl ⟨rfl, rfl, rfl, rfl, trivial⟩ ?_
      exact ⟨_, _, [], _, [], _, rfl, (S45.nilvec (E := EI)).nilvec (E := EI) |>.pick [4, 5] (by decide) rfl, .no hV hw0 ⟨_, _, hh2112⟩⟩

end Go.Proofs
