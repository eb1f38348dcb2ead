/-
  Contracts of functions of the program: each by symbolic execution of its text.
-/
import Derived.Test.YtddapgjjndbejaaF10
namespace Go.Proofs
open Go Go.Vk Go.Vk.Flow

set_option maxHeartbeats 1000000 in
/-- (*couchant/flow.carried).lead. -/
theorem c_lead (N : Int) (va : Value) (arcs : List Arc) (vx : Value) (x : List Int) (vw : Value) (wl : List Int) (mo p : Nat → Int) (hV : Valid N arcs) (hw0 : Wts arcs wl) (hC : Cn N arcs wl x mo p) (bc : Nat) (X : Nat → Prop) (u : World) (hX : ∀ b, X b → u.heap.size ≤ b) (hA : Rd EA u va arcs) (Hw : Rd EI u vw wl) (w : World) (S : Own X w w [blk bc (carC N va vx vw mo p) 91, vec EI vx x]) (h0 : Le u w) :
    Cl Try.prog 121 #[.pointer (some ⟨bc, 0, none⟩)] w fun v w' => (∃ vc cost last rk, v = .tuple #[.bool false, vc] ∧ Own X w w' [blk bc (carC N va vx vw mo p) 91, vec EI vx x, vec EI vc cost] ∧ Nearest N.toNat (stps p 0 arcs x wl) mo cost last rk ∧ ∀ v, v < N.toNat → mo v < 0 → ¬ nth cost v < far) ∨
    ∃ x' mo' p', v = .tuple #[.bool true, .slice none 0 0] ∧ Own X w w' [blk bc (carC N va vx vw mo' p') 91, vec EI vx x'] ∧ Cn N arcs wl x' mo' p' ∧ tot mo' < tot mo := by
  have hNx := hV.max
  have hN1 := hV.pos
  have hLx := hV.len
  have hfar : far = 1152921504606846976 := rfl
  have hxA := hC.amts hV
  have hxl := hxA.len
  have hmb : ∀ v, -4000000000 ≤ mo v ∧ mo v ≤ 4000000000 := fun v => by rw [hC.meq]; exact ex_bd_all hV hxA v
  refine fn_of_run (args := [_]) 217 Try.func121 rfl rfl rfl fun cs => ?_
  refine r_seq ?_
  refine r_region ?_
  refine l_x rfl (x_as rfl) ?_
  refine l_x rfl (x_as rfl) ?_
  refine l_nil ?_
  refine r_seq ?_
  refine r_region ?_
  refine l_x rfl (x_mv rfl) ?_
  refine l_call [] [] [_] rfl rfl Try.call135 rfl (c_nearest N va arcs vx x vw wl mo p hV hxA hw0 (fun v => by have := hC.pb v; omega) bc _ ⟨S.blk 0 rfl, hA.le (S.old h0 hX), vec_rd (S.at 1 rfl), Hw.le (S.old h0 hX)⟩ (hC.cost hw0)) ?_
  rintro _ w1 ⟨vc, vl, rfl, cost, last, rk, hnO, hn⟩
  have S2 := S.join hnO
  have hlc := hn.lc
  have hll := hn.ll
  refine l_x rfl (x_mv rfl) ?_
  refine l_x rfl (x_extract rfl rfl) ?_
  refine l_x rfl (x_extract rfl rfl) ?_
  refine l_x rfl (x_as rfl) ?_
  refine l_x rfl (x_as rfl) ?_
  refine l_nil ?_
  refine r_seq ?_
  refine r_region ?_
  refine l_x rfl (x_as rfl) ?_
  refine l_nil ?_
  refine r_seq ?_
  refine r_seq ?_
  refine r_region ?_
  refine l_x rfl (x_mv rfl) ?_
  refine l_x rfl (x_nilCheck rfl) ?_
  refine l_x rfl (x_fieldAddr rfl Try.runUnderlying91 rfl Try.sizeOf24 (by decide)) ?_
  refine l_x rfl (x_fieldAddr rfl Try.runUnderlying24 rfl Try.sizeOf3 (by decide)) ?_
  refine l_x rfl (x_load rfl (ld_blk (S2.blk 0 rfl) Try.isAgg3 rfl)) ?_
  refine l_x rfl (x_mv rfl) ?_
  refine l_nil ?_
  refine r_block ?_
  refine r_loop (G := Nat × Int) (fun ⟨i, v⟩ => N.toNat - i) (fun ⟨i, v⟩ => [(0, .pointer (some ⟨bc, 0, none⟩)), (4, vc), (5, vl), (6, .int .i64 v), (25, .int .i64 i), (24, .int .i64 N)]) (fun ⟨i, v⟩ w' => (i ≤ N.toNat) ∧ (Mp cost (fun u => mo u < 0) i v) ∧ Own X w w' [blk bc (carC N va vx vw mo p) 91, vec EI vx x, vec EI vc cost, vec ES vl last]) (0, -1) ⟨rfl, rfl, rfl, rfl, rfl, rfl, trivial⟩ ⟨Nat.zero_le _, Mp.zero, S2⟩ ?_
  rintro ⟨i, v⟩ ρ w1a ⟨hi, hM, S1a⟩ IHa
  refine r_seq ?_
  refine r_region ?_
  refine l_x rfl (x_lss rfl rfl) ?_
  refine l_nil ?_
  refine r_seq ?_
  refine r_ifd rfl (fun hc26 => ?_) (fun hc26 => ?_)
  · skip
    refine r_skip ?_
    refine r_seq ?_
    refine r_block ?_
    refine r_seq ?_
    refine r_region ?_
    refine l_x rfl (x_mv rfl) ?_
    refine l_x rfl (x_as rfl) ?_
    refine l_nil ?_
    refine r_seq ?_
    refine r_drawR 29 Try.mixed (by kernel_rfl) ?_
    refine w_x rfl (fun w1 h1 => x_mv rfl) ?_
    refine w_x rfl (fun w1 h1 => x_mv rfl) ?_
    refine w_x rfl (fun w1 h1 => x_nilCheck rfl) ?_
    refine w_x rfl (fun w1 h1 => x_fieldAddr rfl Try.runUnderlying91 rfl Try.sizeOf89 (by decide)) ?_
    refine w_x rfl (fun w1 h1 => x_indexAddr_array rfl rfl Try.runUnderlying89 Try.sizeOf3 (by omega)) ?_
    refine w_x rfl (fun w1 h1 => x_load rfl (ld_blk ((S1a.step h1).blk 0 rfl) Try.isAgg3 (carm_get rfl (by omega)))) ?_
    refine w_x rfl (fun w1 h1 => x_lss rfl rfl) ?_
    refine w_x rfl (fun w1 h1 => x_mv rfl) ?_
    refine w_splitd (d := 35) rfl (fun hg35 => ?_) (fun hg35 => ?_)
    · skip
      refine w_x rfl (fun w1 h1 => x_mv rfl) ?_
      refine w_x rfl (fun w1 h1 => x_mv rfl) ?_
      refine w_index EI rfl (vec_rd (S1a.at 2 rfl)) rfl rfl Try.runUnderlying25 Try.sizeOf3 (by omega) (nth_get (by omega)) ?_
      intro b3 o4 hat5 row6
      refine w_x rfl (fun w1 h1 => x_load rfl (ld_cell Try.isAgg3 ((row6.le h1) 0 _ rfl))) ?_
      refine w_x rfl (fun w1 h1 => x_lss rfl rfl) ?_
      refine w_x rfl (fun w1 h1 => x_pick_t rfl rfl) ?_
      refine w_x rfl (fun w1 h1 => x_mv rfl) ?_
      refine w_splitd (d := 42) rfl (fun hg42 => ?_) (fun hg42 => ?_)
      · skip
        refine w_x rfl (fun w1 h1 => x_mv rfl) ?_
        refine w_x rfl (fun w1 h1 => x_lss rfl rfl) ?_
        refine w_x rfl (fun w1 h1 => x_mv rfl) ?_
        refine w_splitd (d := 45) rfl (fun hg45 => ?_) (fun hg45 => ?_)
        · skip
          refine w_pass rfl ?_
          refine w_pass rfl ?_
          refine w_pass rfl ?_
          refine w_pass rfl ?_
          refine w_pass rfl ?_
          refine w_pass rfl ?_
          refine w_pass rfl ?_
          refine w_pass rfl ?_
          refine w_pass rfl ?_
          refine w_x rfl (fun w1 h1 => x_pick_t rfl rfl) ?_
          refine w_x rfl (fun w1 h1 => x_pick_t rfl rfl) ?_
          refine w_nil ?_
          intro w7 hl8
          have S9 := S1a.step hl8
          refine l_nil ?_
          refine r_true rfl ?_
          refine r_region ?_
          refine l_x rfl (x_mv rfl) ?_
          refine l_x rfl (x_as rfl) ?_
          refine l_nil ?_
          refine r_inBlock ?_
          refine r_region ?_
          refine l_x rfl (x_add rfl rfl (by omega)) ?_
          refine l_x rfl (x_mv rfl) ?_
          refine l_nil ?_
          exact IHa (i + 1, (i : Int)) _ _ (by dsimp only; omega) ⟨rfl, rfl, rfl, rfl, rfl, rfl, trivial⟩ ⟨by omega, hM.take1 hg45 hg35 hg42, S9⟩
        · skip
          refine w_x rfl (fun w1 h1 => x_mv rfl) ?_
          refine w_x rfl (fun w1 h1 => x_mv rfl) ?_
          refine w_index EI rfl (vec_rd (S1a.at 2 rfl)) rfl rfl Try.runUnderlying25 Try.sizeOf3 (by omega) (nth_get (by omega)) ?_
          intro b10 o11 hat12 row13
          refine w_x rfl (fun w1 h1 => x_load rfl (ld_cell Try.isAgg3 ((row13.le h1) 0 _ rfl))) ?_
          refine w_x rfl (fun w1 h1 => x_mv rfl) ?_
          refine w_x rfl (fun w1 h1 => x_mv rfl) ?_
          refine w_index EI rfl (vec_rd (S1a.at 2 rfl)) rfl rfl Try.runUnderlying25 Try.sizeOf3 (by omega) (nth_get (by have := hM.lt; omega)) ?_
          intro b14 o15 hat16 row17
          refine w_x rfl (fun w1 h1 => x_load rfl (ld_cell Try.isAgg3 ((row17.le h1) 0 _ rfl))) ?_
          refine w_x rfl (fun w1 h1 => x_lss rfl rfl) ?_
          refine w_x rfl (fun w1 h1 => x_pick_f rfl rfl) ?_
          refine w_x rfl (fun w1 h1 => x_pick_t rfl rfl) ?_
          refine w_nil ?_
          intro w18 hl19
          have S20 := S1a.step hl19
          refine l_nil ?_
          refine r_ifd rfl (fun hc56 => ?_) (fun hc56 => ?_)
          · skip
            refine r_region ?_
            refine l_x rfl (x_mv rfl) ?_
            refine l_x rfl (x_as rfl) ?_
            refine l_nil ?_
            refine r_inBlock ?_
            refine r_region ?_
            refine l_x rfl (x_add rfl rfl (by omega)) ?_
            refine l_x rfl (x_mv rfl) ?_
            refine l_nil ?_
            exact IHa (i + 1, (i : Int)) _ _ (by dsimp only; omega) ⟨rfl, rfl, rfl, rfl, rfl, rfl, trivial⟩ ⟨by omega, hM.take2 hg45 hg35 hg42 hc56, S20⟩
          · skip
            refine r_skip ?_
            refine r_inBlock ?_
            refine r_region ?_
            refine l_x rfl (x_add rfl rfl (by omega)) ?_
            refine l_x rfl (x_mv rfl) ?_
            refine l_nil ?_
            exact IHa (i + 1, v) _ _ (by dsimp only; omega) ⟨rfl, rfl, rfl, rfl, rfl, rfl, trivial⟩ ⟨by omega, hM.keep hg45 hc56, S20⟩
      · skip
        refine w_pass rfl ?_
        refine w_pass rfl ?_
        refine w_pass rfl ?_
        refine w_pass rfl ?_
        refine w_pass rfl ?_
        refine w_pass rfl ?_
        refine w_pass rfl ?_
        refine w_pass rfl ?_
        refine w_pass rfl ?_
        refine w_pass rfl ?_
        refine w_pass rfl ?_
        refine w_pass rfl ?_
        refine w_pass rfl ?_
        refine w_x rfl (fun w1 h1 => x_pick_f rfl rfl) ?_
        refine w_nil ?_
        intro w21 hl22
        have S23 := S1a.step hl22
        refine l_nil ?_
        refine r_false rfl ?_
        refine r_skip ?_
        refine r_inBlock ?_
        refine r_region ?_
        refine l_x rfl (x_add rfl rfl (by omega)) ?_
        refine l_x rfl (x_mv rfl) ?_
        refine l_nil ?_
        exact IHa (i + 1, v) _ _ (by dsimp only; omega) ⟨rfl, rfl, rfl, rfl, rfl, rfl, trivial⟩ ⟨by omega, hM.skipF hg42, S23⟩
    · skip
      refine w_pass rfl ?_
      refine w_pass rfl ?_
      refine w_pass rfl ?_
      refine w_pass rfl ?_
      refine w_pass rfl ?_
      refine w_x rfl (fun w1 h1 => x_pick_f rfl rfl) ?_
      refine w_x rfl (fun w1 h1 => x_mv rfl) ?_
      refine w_pass rfl ?_
      refine w_pass rfl ?_
      refine w_pass rfl ?_
      refine w_pass rfl ?_
      refine w_pass rfl ?_
      refine w_pass rfl ?_
      refine w_pass rfl ?_
      refine w_pass rfl ?_
      refine w_pass rfl ?_
      refine w_pass rfl ?_
      refine w_pass rfl ?_
      refine w_pass rfl ?_
      refine w_pass rfl ?_
      refine w_x rfl (fun w1 h1 => x_pick_f rfl rfl) ?_
      refine w_nil ?_
      intro w24 hl25
      have S26 := S1a.step hl25
      refine l_nil ?_
      refine r_false rfl ?_
      refine r_skip ?_
      refine r_inBlock ?_
      refine r_region ?_
      refine l_x rfl (x_add rfl rfl (by omega)) ?_
      refine l_x rfl (x_mv rfl) ?_
      refine l_nil ?_
      exact IHa (i + 1, v) _ _ (by dsimp only; omega) ⟨rfl, rfl, rfl, rfl, rfl, rfl, trivial⟩ ⟨by omega, hM.skip hg35, S26⟩
  · skip
    have hie : i = N.toNat := by omega
    subst hie
    refine r_exit rfl ?_
    refine r_seq ?_
    refine r_seq ?_
    refine r_region ?_
    refine l_x rfl (x_mv rfl) ?_
    refine l_x rfl (x_lss rfl rfl) ?_
    refine l_nil ?_
    refine r_ifd rfl (fun hc60 => ?_) (fun hc60 => ?_)
    · skip
      refine r_seq ?_
      refine r_region ?_
      refine l_x rfl (x_mv rfl) ?_
      refine l_x rfl (x_as rfl) ?_
      refine l_x rfl (x_as rfl) ?_
      refine l_nil ?_
      refine r_ret (rs := [.tmp 2, .tmp 3]) [_, _] Try.func121 rfl ⟨rfl, rfl, trivial⟩ ?_
      exact .inl ⟨vc, cost, last, rk, rfl, S1a.take 3, hn, fun v hv hd => hM.elim (fun h => h.2 v hv hd) (fun ⟨v0, h, _⟩ => by omega)⟩
    · skip
      obtain ⟨to, rfl, hto, htd, htf, htm⟩ := hM.resolve_left (fun h => by omega)
      have hb6 := hn.nonneg to hto
      refine r_skip ?_
      refine r_seq ?_
      refine r_seq ?_
      refine r_region ?_
      refine l_x rfl (x_mv rfl) ?_
      refine l_x rfl (x_nilCheck rfl) ?_
      refine l_x rfl (x_fieldAddr rfl Try.runUnderlying91 rfl Try.sizeOf24 (by decide)) ?_
      refine l_x rfl (x_fieldAddr rfl Try.runUnderlying24 rfl Try.sizeOf3 (by decide)) ?_
      refine l_x rfl (x_load rfl (ld_blk (S1a.blk 0 rfl) Try.isAgg3 rfl)) ?_
      refine l_x rfl (x_mv rfl) ?_
      refine l_nil ?_
      refine r_block ?_
      refine r_loop (G := Nat) (fun i => N.toNat - i) (fun i => [(0, .pointer (some ⟨bc, 0, none⟩)), (4, vc), (5, vl), (6, .int .i64 to), (67, .int .i64 i), (66, .int .i64 N)]) (fun i w' => (i ≤ N.toNat) ∧ Own X w w' [blk bc (carC N va vx vw mo (nextp i cost (nth cost to) p)) 91, vec EI vx x, vec EI vc cost, vec ES vl last]) 0 ⟨rfl, rfl, rfl, rfl, rfl, rfl, trivial⟩ ⟨Nat.zero_le _, (by rw [nextp_zero]; exact S1a)⟩ ?_
      rintro i ρ w1b ⟨hi, S1b⟩ IHb
      refine r_seq ?_
      refine r_region ?_
      refine l_x rfl (x_lss rfl rfl) ?_
      refine l_nil ?_
      refine r_seq ?_
      refine r_ifd rfl (fun hc68 => ?_) (fun hc68 => ?_)
      · skip
        refine r_skip ?_
        refine r_seq ?_
        refine r_block ?_
        refine r_seq ?_
        refine r_region ?_
        refine l_x rfl (x_mv rfl) ?_
        refine l_x rfl (x_as rfl) ?_
        refine l_nil ?_
        have hb1 : nextp i cost (nth cost to) p ((i : Nat) : Int).toNat = p i := by rw [Int.toNat_natCast]; simp [nextp]
        have hb2 : nth cost ((i : Nat) : Int).toNat = nth cost i := rfl
        have hb3 : nth cost ((to : Nat) : Int).toNat = nth cost to := rfl
        have hb4 := hC.pb i
        have hb5 := hn.nonneg i (by omega)
        have hb6 := hn.nonneg to hto
        have hb7 := hn.bd to hto htf
        refine r_drawR 19 Try.mixed (by kernel_rfl) ?_
        refine w_x rfl (fun w1 h1 => x_mv rfl) ?_
        refine w_x rfl (fun w1 h1 => x_mv rfl) ?_
        refine w_x rfl (fun w1 h1 => x_nilCheck rfl) ?_
        refine w_x rfl (fun w1 h1 => x_fieldAddr rfl Try.runUnderlying91 rfl Try.sizeOf89 (by decide)) ?_
        refine w_x rfl (fun w1 h1 => x_indexAddr_array rfl rfl Try.runUnderlying89 Try.sizeOf3 (by omega)) ?_
        refine w_x rfl (fun w1 h1 => x_load rfl (ld_blk ((S1b.step h1).blk 0 rfl) Try.isAgg3 (carp_get rfl (by omega)))) ?_
        refine w_x rfl (fun w1 h1 => x_mv rfl) ?_
        refine w_x rfl (fun w1 h1 => x_mv rfl) ?_
        refine w_index EI rfl (vec_rd (S1b.at 2 rfl)) rfl rfl Try.runUnderlying25 Try.sizeOf3 (by omega) (nth_get (by omega)) ?_
        intro b27 o28 hat29 row30
        refine w_x rfl (fun w1 h1 => x_load rfl (ld_cell Try.isAgg3 ((row30.le h1) 0 _ rfl))) ?_
        refine w_x rfl (fun w1 h1 => x_mv rfl) ?_
        refine w_x rfl (fun w1 h1 => x_mv rfl) ?_
        refine w_index EI rfl (vec_rd (S1b.at 2 rfl)) rfl rfl Try.runUnderlying25 Try.sizeOf3 (by omega) (nth_get (by omega)) ?_
        intro b31 o32 hat33 row34
        refine w_x rfl (fun w1 h1 => x_load rfl (ld_cell Try.isAgg3 ((row34.le h1) 0 _ rfl))) ?_
        refine w_x rfl (fun w1 h1 => x_min rfl rfl) ?_
        refine w_x rfl (fun w1 h1 => x_add rfl rfl (by omega)) ?_
        refine w_x rfl (fun w1 h1 => x_nilCheck rfl) ?_
        refine w_x rfl (fun w1 h1 => x_fieldAddr rfl Try.runUnderlying91 rfl Try.sizeOf89 (by decide)) ?_
        refine w_x rfl (fun w1 h1 => x_indexAddr_array rfl rfl Try.runUnderlying89 Try.sizeOf3 (by omega)) ?_
        refine w_nil ?_
        intro w35 hl36
        have S37 := S1b.step hl36
        refine l_storeq S37 0 rfl rfl rfl rfl rfl Try.sizeOf3 (carp_lt rfl (by omega)) (carp_set rfl (by omega)) ?_
        intro w38 S39 hk40
        refine l_nil ?_
        refine r_inBlock ?_
        refine r_region ?_
        refine l_x rfl (x_add rfl rfl (by omega)) ?_
        refine l_x rfl (x_mv rfl) ?_
        refine l_nil ?_
        exact IHb (i + 1) _ _ (by omega) ⟨rfl, rfl, rfl, rfl, rfl, rfl, trivial⟩ ⟨by omega, (by rw [← nextp_step]; exact S39)⟩
      · skip
        have hie : i = N.toNat := by omega
        subst hie
        refine r_exit rfl ?_
        refine r_seq ?_
        have hb8 := hmb ((to : Nat) : Int).toNat
        have hb9 : mo ((to : Nat) : Int).toNat = mo to := rfl
        refine r_region ?_
        refine l_x rfl (x_mv rfl) ?_
        refine l_x rfl (x_mv rfl) ?_
        refine l_x rfl (x_nilCheck rfl) ?_
        refine l_x rfl (x_fieldAddr rfl Try.runUnderlying91 rfl Try.sizeOf89 (by decide)) ?_
        refine l_x rfl (x_indexAddr_array rfl rfl Try.runUnderlying89 Try.sizeOf3 (by omega)) ?_
        refine l_x rfl (x_load rfl (ld_blk (S1b.blk 0 rfl) Try.isAgg3 (carm_get rfl (by omega)))) ?_
        refine l_x rfl (x_neg rfl (by omega)) ?_
        refine l_x rfl (x_mv rfl) ?_
        refine l_x rfl (x_as rfl) ?_
        refine l_x rfl (x_as rfl) ?_
        refine l_nil ?_
        refine r_seq ?_
        refine r_block ?_
        refine r_loop (G := Nat × Int) (fun ⟨at_, much⟩ => rk at_) (fun ⟨at_, much⟩ => [(0, .pointer (some ⟨bc, 0, none⟩)), (4, vc), (5, vl), (6, .int .i64 to), (9, .int .i64 much), (10, .int .i64 at_)]) (fun ⟨at_, much⟩ w' => (at_ < N.toNat) ∧ (nth cost at_ < far) ∧ (nth cost at_ ≤ nth cost to) ∧ (Trail last to at_) ∧ (0 < much ∧ much ≤ -mo to) ∧ (∀ v t, Trail last to v → last[v]? = some t → Trail last at_ v ∨ (0 ≤ t.arc ∧ ResOk arcs x much t)) ∧ Own X w w' [blk bc (carC N va vx vw mo (nextp N.toNat cost (nth cost to) p)) 91, vec EI vx x, vec EI vc cost, vec ES vl last]) (to, -mo to) ⟨rfl, rfl, rfl, rfl, rfl, rfl, trivial⟩ ⟨hto, htf, Int.le_refl _, .refl _, by omega, fun v t h _ => .inl h, (S1b.take 4)⟩ ?_
        rintro ⟨at_, much⟩ ρ w1c ⟨hat, hatf, hatK, hR, hmp, hmu, S1c⟩ IHc
        refine r_seq ?_
        refine r_seq ?_
        obtain ⟨s, hs⟩ : ∃ s, last[at_]? = some s := ⟨_, List.getElem?_eq_getElem (by omega)⟩
        refine r_region ?_
        refine l_x rfl (x_mv rfl) ?_
        refine l_x rfl (x_mv rfl) ?_
        refine l_index ES rfl (vec_rd (S1c.at 3 rfl)) rfl rfl Try.runUnderlying135 Try.sizeOf126 (by omega) hs ?_
        intro b41 o42 hat43 row44
        refine l_x rfl (x_fieldAddr rfl Try.runUnderlying126 rfl Try.sizeOf3 (by decide)) ?_
        refine l_x rfl (x_load rfl (ld_cell Try.isAgg3 (row44 0 _ rfl))) ?_
        refine l_x rfl (x_geq rfl rfl) ?_
        refine l_nil ?_
        refine r_ifd rfl (fun hc103 => ?_) (fun hc103 => ?_)
        · skip
          obtain ⟨_, hin, hdst, hsf, hsc, hsr⟩ := (hn.fin at_ hat hatf s hs).resolve_left (fun h => by omega)
          have hok := stps_ok hV hin
          have hred := hC.red s hin
          obtain ⟨a, y, ha, hy, hcase⟩ := step_arc hin
          have haok := hV.at ha
          have hyb := hxA.at hy
          have hyl := (List.getElem?_eq_some_iff.1 hy).1
          refine r_skip ?_
          refine r_block ?_
          refine r_seq ?_
          refine r_region ?_
          refine l_x rfl (x_mv rfl) ?_
          refine l_x rfl (x_mv rfl) ?_
          refine l_index ES rfl (vec_rd (S1c.at 3 rfl)) rfl rfl Try.runUnderlying135 Try.sizeOf126 (by omega) hs ?_
          intro b45 o46 hat47 row48
          refine l_x rfl (x_load rfl (ld_row Try.isAgg126 Try.sizeOf126 rfl row48)) ?_
          refine l_alloc S1c rfl Try.zeroValue126 rfl ?_
          intro b52 w49 S50 hl51
          refine l_stores S50 4 rfl rfl rfl rfl (ES.one _) Try.sizeOf126 (by first | exact Nat.le_refl _ | simp) (splice_all rfl) ?_
          intro w53 S54 hk55
          refine l_nil ?_
          refine r_seq ?_
          refine r_drawE 10 nob Try.mixed (by kernel_rfl) ?_
          intro w56 hl57
          have S58 := S54.step hl57
          refine e_exact 0 _ (by kernel_rfl) rfl rfl (by kernel_rfl) rfl (ex_x rfl (fun w1 h1 => x_mv rfl)) ?_
          refine e_exact 1 _ (by kernel_rfl) rfl rfl (by kernel_rfl) rfl (ex_x rfl (fun w1 h1 => x_nilCheck rfl)) ?_
          refine e_exact 2 _ (by kernel_rfl) rfl rfl (by kernel_rfl) rfl (ex_x rfl (fun w1 h1 => x_fieldAddr rfl Try.runUnderlying91 rfl Try.sizeOf24 (by decide))) ?_
          refine e_exact 3 _ (by kernel_rfl) rfl rfl (by kernel_rfl) rfl (ex_x rfl (fun w1 h1 => x_fieldAddr rfl Try.runUnderlying24 rfl Try.sizeOf22 (by decide))) ?_
          refine e_exact 4 _ (by kernel_rfl) rfl rfl (by kernel_rfl) rfl (ex_x rfl (fun w1 h1 => x_load rfl (ld_blk ((S58.step h1).blk 0 rfl) Try.isAgg22 rfl))) ?_
          refine e_exact 5 _ (by kernel_rfl) rfl rfl (by kernel_rfl) rfl (ex_x rfl (fun w1 h1 => x_fieldAddr rfl Try.runUnderlying126 rfl Try.sizeOf3 (by decide))) ?_
          refine e_exact 6 _ (by kernel_rfl) rfl rfl (by kernel_rfl) rfl (ex_x rfl (fun w1 h1 => x_load rfl (ld_blk ((S58.step h1).blk 4 rfl) Try.isAgg3 rfl))) ?_
          refine e_index EA 7 (by kernel_rfl) rfl rfl (by kernel_rfl) rfl rfl (hA.le (S58.old h0 hX)) rfl rfl Try.runUnderlying22 Try.sizeOf39 (by omega) ha ?_
          intro b59 o60 hat61
          refine e_exact 8 _ (by kernel_rfl) rfl rfl (by kernel_rfl) rfl (ex_x rfl (fun w1 h1 => x_load rfl (ld_row Try.isAgg39 Try.sizeOf39 rfl (rd_row (hA.le ((S58.step h1).old h0 hX)) hat61 ha)))) ?_
          refine e_next [9] (by kernel_rfl) (by kernel_rfl) ⟨⟨_, _, rfl, rfl, ?_⟩, trivial⟩
          refine s_alloc S58 rfl Try.zeroValue39 rfl ?_
          intro b65 w62 S63 hl64
          refine ⟨.of_le hl64, ?_⟩
          refine e_done (by kernel_rfl) ?_
          refine l_stores S63 5 rfl rfl rfl rfl (EA.one _) Try.sizeOf39 (by first | exact Nat.le_refl _ | simp) (splice_all rfl) ?_
          intro w66 S67 hk68
          refine l_nil ?_
          refine r_seq ?_
          refine r_seq ?_
          refine r_region ?_
          refine l_x rfl (x_fieldAddr rfl Try.runUnderlying126 rfl Try.sizeOf4 (by decide)) ?_
          refine l_x rfl (x_load rfl (ld_blk (S67.blk 4 rfl) Try.isAgg4 rfl)) ?_
          refine l_nil ?_
          refine r_if rfl (fun hc118 => ?_) (fun hc118 => ?_)
          · skip
            have hcb := hcase.resolve_right (fun h => by rw [hc118] at h; exact absurd h.1 (by simp))
            refine r_drawR 14 Try.mixed (by kernel_rfl) ?_
            refine w_x rfl (fun w1 h1 => x_mv rfl) ?_
            refine w_x rfl (fun w1 h1 => x_mv rfl) ?_
            refine w_x rfl (fun w1 h1 => x_nilCheck rfl) ?_
            refine w_x rfl (fun w1 h1 => x_fieldAddr rfl Try.runUnderlying91 rfl Try.sizeOf25 (by decide)) ?_
            refine w_x rfl (fun w1 h1 => x_load rfl (ld_blk ((S67.step h1).blk 0 rfl) Try.isAgg25 rfl)) ?_
            refine w_x rfl (fun w1 h1 => x_fieldAddr rfl Try.runUnderlying126 rfl Try.sizeOf3 (by decide)) ?_
            refine w_x rfl (fun w1 h1 => x_load rfl (ld_blk ((S67.step h1).blk 4 rfl) Try.isAgg3 rfl)) ?_
            refine w_index EI rfl (vec_rd (S67.at 1 rfl)) rfl rfl Try.runUnderlying25 Try.sizeOf3 (by omega) hy ?_
            intro b69 o70 hat71 row72
            refine w_x rfl (fun w1 h1 => x_load rfl (ld_cell Try.isAgg3 ((row72.le h1) 0 _ rfl))) ?_
            refine w_x rfl (fun w1 h1 => x_fieldAddr rfl Try.runUnderlying39 rfl Try.sizeOf3 (by decide)) ?_
            refine w_x rfl (fun w1 h1 => x_load rfl (ld_blk ((S67.step h1).blk 5 rfl) Try.isAgg3 rfl)) ?_
            refine w_x rfl (fun w1 h1 => x_sub rfl rfl (by omega)) ?_
            refine w_x rfl (fun w1 h1 => x_min rfl rfl) ?_
            refine w_x rfl (fun w1 h1 => x_as rfl) ?_
            refine w_nil ?_
            intro w73 hl74
            have S75 := S67.step hl74
            refine l_nil ?_
            refine r_region ?_
            refine l_x rfl (x_fieldAddr rfl Try.runUnderlying126 rfl Try.sizeOf3 (by decide)) ?_
            refine l_x rfl (x_load rfl (ld_blk (S75.blk 4 rfl) Try.isAgg3 rfl)) ?_
            refine l_x rfl (x_as rfl) ?_
            refine l_nil ?_
            refine r_inBlock ?_
            exact IHc (s.src.toNat, (min much (y - a.lo))) _ _ (by dsimp only; exact hsr) ⟨rfl, rfl, rfl, rfl, rfl, (congrArg (Value.int .i64) (by omega : s.src = ((s.src.toNat : Nat) : Int))), trivial⟩ ⟨by omega, hsf, by omega, hR.snoc hs hc103, by omega, much_step hmu hs hc103 (ResOk.of ha hy (fun _ => by omega) (fun hb => by rw [hc118] at hb; cases hb)) (by omega), (S75.take 4)⟩
          · skip
            have hcb := hcase.resolve_left (fun h => by rw [hc118] at h; exact absurd h.1 (by simp))
            refine r_drawR 14 Try.mixed (by kernel_rfl) ?_
            refine w_x rfl (fun w1 h1 => x_mv rfl) ?_
            refine w_x rfl (fun w1 h1 => x_fieldAddr rfl Try.runUnderlying39 rfl Try.sizeOf3 (by decide)) ?_
            refine w_x rfl (fun w1 h1 => x_load rfl (ld_blk ((S67.step h1).blk 5 rfl) Try.isAgg3 rfl)) ?_
            refine w_x rfl (fun w1 h1 => x_mv rfl) ?_
            refine w_x rfl (fun w1 h1 => x_nilCheck rfl) ?_
            refine w_x rfl (fun w1 h1 => x_fieldAddr rfl Try.runUnderlying91 rfl Try.sizeOf25 (by decide)) ?_
            refine w_x rfl (fun w1 h1 => x_load rfl (ld_blk ((S67.step h1).blk 0 rfl) Try.isAgg25 rfl)) ?_
            refine w_x rfl (fun w1 h1 => x_fieldAddr rfl Try.runUnderlying126 rfl Try.sizeOf3 (by decide)) ?_
            refine w_x rfl (fun w1 h1 => x_load rfl (ld_blk ((S67.step h1).blk 4 rfl) Try.isAgg3 rfl)) ?_
            refine w_index EI rfl (vec_rd (S67.at 1 rfl)) rfl rfl Try.runUnderlying25 Try.sizeOf3 (by omega) hy ?_
            intro b76 o77 hat78 row79
            refine w_x rfl (fun w1 h1 => x_load rfl (ld_cell Try.isAgg3 ((row79.le h1) 0 _ rfl))) ?_
            refine w_x rfl (fun w1 h1 => x_sub rfl rfl (by omega)) ?_
            refine w_x rfl (fun w1 h1 => x_min rfl rfl) ?_
            refine w_x rfl (fun w1 h1 => x_as rfl) ?_
            refine w_nil ?_
            intro w80 hl81
            have S82 := S67.step hl81
            refine l_nil ?_
            refine r_region ?_
            refine l_x rfl (x_fieldAddr rfl Try.runUnderlying126 rfl Try.sizeOf3 (by decide)) ?_
            refine l_x rfl (x_load rfl (ld_blk (S82.blk 4 rfl) Try.isAgg3 rfl)) ?_
            refine l_x rfl (x_as rfl) ?_
            refine l_nil ?_
            refine r_inBlock ?_
            exact IHc (s.src.toNat, (min much (a.hi - y))) _ _ (by dsimp only; exact hsr) ⟨rfl, rfl, rfl, rfl, rfl, (congrArg (Value.int .i64) (by omega : s.src = ((s.src.toNat : Nat) : Int))), trivial⟩ ⟨by omega, hsf, by omega, hR.snoc hs hc103, by omega, much_step hmu hs hc103 (ResOk.of ha hy (fun hb => by rw [hc118] at hb; cases hb) (fun _ => by omega)) (by omega), (S82.take 4)⟩
        · skip
          refine r_exit rfl ?_
          refine r_seq ?_
          have hsrc := (hn.fin at_ hat hatf s hs).resolve_right (fun h => by omega)
          have hb10 := hmb ((at_ : Nat) : Int).toNat
          have hb11 : mo ((at_ : Nat) : Int).toNat = mo at_ := rfl
          have hb12 := hsrc.2.2
          have hend : ∀ v t, Trail last to v → last[v]? = some t → (v = at_ ∧ t.arc < 0) ∨ (0 ≤ t.arc ∧ ResOk arcs x much t) := fun v t hv ht => (hmu v t hv ht).imp (fun h => by have e := h.stop hs (by omega); subst e; rw [hs] at ht; cases ht; exact ⟨rfl, by omega⟩) id
          obtain ⟨mu, hmuE⟩ : ∃ mu, mu = min much (mo at_) := ⟨_, rfl⟩
          refine r_region ?_
          refine l_x rfl (x_mv rfl) ?_
          refine l_x rfl (x_mv rfl) ?_
          refine l_x rfl (x_mv rfl) ?_
          refine l_x rfl (x_nilCheck rfl) ?_
          refine l_x rfl (x_fieldAddr rfl Try.runUnderlying91 rfl Try.sizeOf89 (by decide)) ?_
          refine l_x rfl (x_indexAddr_array rfl rfl Try.runUnderlying89 Try.sizeOf3 (by omega)) ?_
          refine l_x rfl (x_load rfl (ld_blk (S1c.blk 0 rfl) Try.isAgg3 (carm_get rfl (by omega)))) ?_
          refine l_x rfl (x_min rfl rfl) ?_
          refine l_x rfl (x_as rfl) ?_
          refine l_nil ?_
          refine r_seq ?_
          refine r_slot 9 (.int .i64 mu) (congrArg (Value.int .i64) hmuE.symm) ?_
          refine r_drawR 11 Try.mixed (by kernel_rfl) ?_
          refine w_x rfl (fun w1 h1 => x_mv rfl) ?_
          refine w_x rfl (fun w1 h1 => x_mv rfl) ?_
          refine w_x rfl (fun w1 h1 => x_nilCheck rfl) ?_
          refine w_x rfl (fun w1 h1 => x_fieldAddr rfl Try.runUnderlying91 rfl Try.sizeOf89 (by decide)) ?_
          refine w_x rfl (fun w1 h1 => x_indexAddr_array rfl rfl Try.runUnderlying89 Try.sizeOf3 (by omega)) ?_
          refine w_x rfl (fun w1 h1 => x_load rfl (ld_blk ((S1c.step h1).blk 0 rfl) Try.isAgg3 (carm_get rfl (by omega)))) ?_
          refine w_x rfl (fun w1 h1 => x_mv rfl) ?_
          refine w_x rfl (fun w1 h1 => x_sub rfl rfl (by omega)) ?_
          refine w_x rfl (fun w1 h1 => x_nilCheck rfl) ?_
          refine w_x rfl (fun w1 h1 => x_fieldAddr rfl Try.runUnderlying91 rfl Try.sizeOf89 (by decide)) ?_
          refine w_x rfl (fun w1 h1 => x_indexAddr_array rfl rfl Try.runUnderlying89 Try.sizeOf3 (by omega)) ?_
          refine w_nil ?_
          intro w83 hl84
          have S85 := S1c.step hl84
          refine l_storeq S85 0 rfl rfl rfl rfl rfl Try.sizeOf3 (carm_lt rfl (by omega)) (carm_set rfl (by omega)) ?_
          intro w86 S87 hk88
          refine l_nil ?_
          refine r_seq ?_
          have hne : ¬ to = at_ := fun e => by rw [e] at htd; omega
          have hb13 : upf mo ((at_ : Nat) : Int).toNat (mo ((at_ : Nat) : Int).toNat - mu) ((to : Nat) : Int).toNat = mo to := by rw [Int.toNat_natCast, Int.toNat_natCast]; simp [upf, hne]
          refine r_drawR 11 Try.mixed (by kernel_rfl) ?_
          refine w_x rfl (fun w1 h1 => x_mv rfl) ?_
          refine w_x rfl (fun w1 h1 => x_mv rfl) ?_
          refine w_x rfl (fun w1 h1 => x_nilCheck rfl) ?_
          refine w_x rfl (fun w1 h1 => x_fieldAddr rfl Try.runUnderlying91 rfl Try.sizeOf89 (by decide)) ?_
          refine w_x rfl (fun w1 h1 => x_indexAddr_array rfl rfl Try.runUnderlying89 Try.sizeOf3 (by omega)) ?_
          refine w_x rfl (fun w1 h1 => x_load rfl (ld_blk ((S87.step h1).blk 0 rfl) Try.isAgg3 (carm_get rfl (by omega)))) ?_
          refine w_x rfl (fun w1 h1 => x_mv rfl) ?_
          refine w_x rfl (fun w1 h1 => x_add rfl rfl (by omega)) ?_
          refine w_x rfl (fun w1 h1 => x_nilCheck rfl) ?_
          refine w_x rfl (fun w1 h1 => x_fieldAddr rfl Try.runUnderlying91 rfl Try.sizeOf89 (by decide)) ?_
          refine w_x rfl (fun w1 h1 => x_indexAddr_array rfl rfl Try.runUnderlying89 Try.sizeOf3 (by omega)) ?_
          refine w_nil ?_
          intro w89 hl90
          have S91 := S87.step hl90
          refine l_storeq S91 0 rfl rfl rfl rfl rfl Try.sizeOf3 (carm_lt rfl (by omega)) (carm_set rfl (by omega)) ?_
          intro w92 S93 hk94
          refine l_nil ?_
          refine r_seq ?_
          refine r_seq ?_
          refine r_region ?_
          refine l_x rfl (x_mv rfl) ?_
          refine l_x rfl (x_as rfl) ?_
          refine l_nil ?_
          refine r_block ?_
          refine r_loop (G := Nat × List Int) (fun ⟨at2, x'⟩ => rk at2) (fun ⟨at2, x'⟩ => [(0, .pointer (some ⟨bc, 0, none⟩)), (4, vc), (5, vl), (9, .int .i64 mu), (13, .int .i64 at2)]) (fun ⟨at2, x'⟩ w' => (at2 < N.toNat) ∧ (nth cost at2 < far) ∧ (Trail last to at2) ∧ (Aug arcs wl x mu (nextp N.toNat cost (nth cost to) p) last to at2 x') ∧ Own X w w' [blk bc (carC N va vx vw (upf (upf mo at_ (mo at_ - mu)) to (upf mo at_ (mo at_ - mu) to + mu)) (nextp N.toNat cost (nth cost to) p)) 91, vec EI vx x', vec EI vc cost, vec ES vl last]) (to, x) ⟨rfl, rfl, rfl, rfl, rfl, trivial⟩ ⟨hto, htf, .refl _, Aug.start hC.bds (nextp_red hC hV hw0 hn htf), (S93.take 4)⟩ ?_
          rintro ⟨at2, x'⟩ ρ w1d ⟨hat2, hatf2, hR2, hAg, S1d⟩ IHd
          refine r_seq ?_
          refine r_seq ?_
          obtain ⟨s, hs⟩ : ∃ s, last[at2]? = some s := ⟨_, List.getElem?_eq_getElem (by omega)⟩
          refine r_region ?_
          refine l_x rfl (x_mv rfl) ?_
          refine l_x rfl (x_mv rfl) ?_
          refine l_index ES rfl (vec_rd (S1d.at 3 rfl)) rfl rfl Try.runUnderlying135 Try.sizeOf126 (by omega) hs ?_
          intro b95 o96 hat97 row98
          refine l_x rfl (x_fieldAddr rfl Try.runUnderlying126 rfl Try.sizeOf3 (by decide)) ?_
          refine l_x rfl (x_load rfl (ld_cell Try.isAgg3 (row98 0 _ rfl))) ?_
          refine l_x rfl (x_geq rfl rfl) ?_
          refine l_nil ?_
          refine r_ifd rfl (fun hc183 => ?_) (fun hc183 => ?_)
          · skip
            obtain ⟨_, hin, hdst, hsf, hsc, hsr⟩ := (hn.fin at2 hat2 hatf2 s hs).resolve_left (fun h => by omega)
            have hok := stps_ok hV hin
            have hred := hC.red s hin
            obtain ⟨a, y, ha, hy, hcase⟩ := step_arc hin
            have haok := hV.at ha
            have hyb := hxA.at hy
            have hyl := (List.getElem?_eq_some_iff.1 hy).1
            have hyx := (hAg.same at2 s (.refl _) hs hc183).trans hy
            have hres : ResOk arcs x mu s := ((hend at2 s hR2 hs).resolve_left (fun h => by omega)).2.le (by omega)
            have hatK2 : nth cost at2 ≤ nth cost to := (hR2.facts hn (fun s hs => by have h1 := stps_ok hV hs; have h2 := hC.red s hs; omega) hto htf).2.2.1
            refine r_skip ?_
            refine r_seq ?_
            refine r_block ?_
            refine r_seq ?_
            refine r_region ?_
            refine l_x rfl (x_mv rfl) ?_
            refine l_x rfl (x_mv rfl) ?_
            refine l_index ES rfl (vec_rd (S1d.at 3 rfl)) rfl rfl Try.runUnderlying135 Try.sizeOf126 (by omega) hs ?_
            intro b99 o100 hat101 row102
            refine l_x rfl (x_load rfl (ld_row Try.isAgg126 Try.sizeOf126 rfl row102)) ?_
            refine l_alloc S1d rfl Try.zeroValue126 rfl ?_
            intro b106 w103 S104 hl105
            refine l_stores S104 4 rfl rfl rfl rfl (ES.one _) Try.sizeOf126 (by first | exact Nat.le_refl _ | simp) (splice_all rfl) ?_
            intro w107 S108 hk109
            refine l_nil ?_
            refine r_seq ?_
            refine r_region ?_
            refine l_x rfl (x_fieldAddr rfl Try.runUnderlying126 rfl Try.sizeOf4 (by decide)) ?_
            refine l_x rfl (x_load rfl (ld_blk (S108.blk 4 rfl) Try.isAgg4 rfl)) ?_
            refine l_nil ?_
            refine r_if rfl (fun hc194 => ?_) (fun hc194 => ?_)
            · skip
              have hcb := hcase.resolve_right (fun h => by rw [hc194] at h; exact absurd h.1 (by simp))
              refine r_drawR 11 Try.mixed (by kernel_rfl) ?_
              refine w_x rfl (fun w1 h1 => x_mv rfl) ?_
              refine w_x rfl (fun w1 h1 => x_nilCheck rfl) ?_
              refine w_x rfl (fun w1 h1 => x_fieldAddr rfl Try.runUnderlying91 rfl Try.sizeOf25 (by decide)) ?_
              refine w_x rfl (fun w1 h1 => x_load rfl (ld_blk ((S108.step h1).blk 0 rfl) Try.isAgg25 rfl)) ?_
              refine w_x rfl (fun w1 h1 => x_fieldAddr rfl Try.runUnderlying126 rfl Try.sizeOf3 (by decide)) ?_
              refine w_x rfl (fun w1 h1 => x_load rfl (ld_blk ((S108.step h1).blk 4 rfl) Try.isAgg3 rfl)) ?_
              refine w_index EI rfl (vec_rd (S108.at 1 rfl)) rfl rfl Try.runUnderlying25 Try.sizeOf3 (by omega) hyx ?_
              intro b110 o111 hat112 row113
              refine w_x rfl (fun w1 h1 => x_load rfl (ld_cell Try.isAgg3 ((row113.le h1) 0 _ rfl))) ?_
              refine w_x rfl (fun w1 h1 => x_mv rfl) ?_
              refine w_x rfl (fun w1 h1 => x_sub rfl rfl (by omega)) ?_
              refine w_index EI rfl (vec_rd (S108.at 1 rfl)) rfl rfl Try.runUnderlying25 Try.sizeOf3 (by omega) hyx ?_
              intro b114 o115 hat116 row117
              refine w_nil ?_
              intro w118 hl119
              have S120 := S108.step hl119
              refine l_storevi (f := 0) S120 1 rfl rfl hat116 rfl rfl Try.sizeOf3 hyx (by decide) rfl ?_
              intro w121 S122 hk123
              refine l_nil ?_
              refine r_inBlock ?_
              refine r_region ?_
              refine l_x rfl (x_mv rfl) ?_
              refine l_x rfl (x_mv rfl) ?_
              refine l_index ES rfl (vec_rd (S122.at 3 rfl)) rfl rfl Try.runUnderlying135 Try.sizeOf126 (by omega) hs ?_
              intro b124 o125 hat126 row127
              refine l_x rfl (x_fieldAddr rfl Try.runUnderlying126 rfl Try.sizeOf3 (by decide)) ?_
              refine l_x rfl (x_load rfl (ld_cell Try.isAgg3 (row127 2 _ rfl))) ?_
              refine l_x rfl (x_as rfl) ?_
              refine l_nil ?_
              exact IHd (s.src.toNat, x'.set s.arc.toNat (y - mu)) _ _ (by dsimp only; exact hsr) ⟨rfl, rfl, rfl, rfl, (congrArg (Value.int .i64) (by omega : s.src = ((s.src.toNat : Nat) : Int))), trivial⟩ ⟨by omega, hsf, hR2.snoc hs hc183, hAg.step hV hs hc183 (by omega) hin hdst (nextp_tight hC hV hw0 hn hat2 hatf2 (by omega) hs hc183).2 hres (fun v t hv ht _ => way_inj hV hn (fun s hs => hC.red s hs) hat2 hatf2 hs hc183 hv ht) hyx (.inl ⟨hc194, rfl⟩), (S122.take 4)⟩
            · skip
              have hcb := hcase.resolve_left (fun h => by rw [hc194] at h; exact absurd h.1 (by simp))
              refine r_drawR 11 Try.mixed (by kernel_rfl) ?_
              refine w_x rfl (fun w1 h1 => x_mv rfl) ?_
              refine w_x rfl (fun w1 h1 => x_nilCheck rfl) ?_
              refine w_x rfl (fun w1 h1 => x_fieldAddr rfl Try.runUnderlying91 rfl Try.sizeOf25 (by decide)) ?_
              refine w_x rfl (fun w1 h1 => x_load rfl (ld_blk ((S108.step h1).blk 0 rfl) Try.isAgg25 rfl)) ?_
              refine w_x rfl (fun w1 h1 => x_fieldAddr rfl Try.runUnderlying126 rfl Try.sizeOf3 (by decide)) ?_
              refine w_x rfl (fun w1 h1 => x_load rfl (ld_blk ((S108.step h1).blk 4 rfl) Try.isAgg3 rfl)) ?_
              refine w_index EI rfl (vec_rd (S108.at 1 rfl)) rfl rfl Try.runUnderlying25 Try.sizeOf3 (by omega) hyx ?_
              intro b128 o129 hat130 row131
              refine w_x rfl (fun w1 h1 => x_load rfl (ld_cell Try.isAgg3 ((row131.le h1) 0 _ rfl))) ?_
              refine w_x rfl (fun w1 h1 => x_mv rfl) ?_
              refine w_x rfl (fun w1 h1 => x_add rfl rfl (by omega)) ?_
              refine w_index EI rfl (vec_rd (S108.at 1 rfl)) rfl rfl Try.runUnderlying25 Try.sizeOf3 (by omega) hyx ?_
              intro b132 o133 hat134 row135
              refine w_nil ?_
              intro w136 hl137
              have S138 := S108.step hl137
              refine l_storevi (f := 0) S138 1 rfl rfl hat134 rfl rfl Try.sizeOf3 hyx (by decide) rfl ?_
              intro w139 S140 hk141
              refine l_nil ?_
              refine r_inBlock ?_
              refine r_region ?_
              refine l_x rfl (x_mv rfl) ?_
              refine l_x rfl (x_mv rfl) ?_
              refine l_index ES rfl (vec_rd (S140.at 3 rfl)) rfl rfl Try.runUnderlying135 Try.sizeOf126 (by omega) hs ?_
              intro b142 o143 hat144 row145
              refine l_x rfl (x_fieldAddr rfl Try.runUnderlying126 rfl Try.sizeOf3 (by decide)) ?_
              refine l_x rfl (x_load rfl (ld_cell Try.isAgg3 (row145 2 _ rfl))) ?_
              refine l_x rfl (x_as rfl) ?_
              refine l_nil ?_
              exact IHd (s.src.toNat, x'.set s.arc.toNat (y + mu)) _ _ (by dsimp only; exact hsr) ⟨rfl, rfl, rfl, rfl, (congrArg (Value.int .i64) (by omega : s.src = ((s.src.toNat : Nat) : Int))), trivial⟩ ⟨by omega, hsf, hR2.snoc hs hc183, hAg.step hV hs hc183 (by omega) hin hdst (nextp_tight hC hV hw0 hn hat2 hatf2 (by omega) hs hc183).2 hres (fun v t hv ht _ => way_inj hV hn (fun s hs => hC.red s hs) hat2 hatf2 hs hc183 hv ht) hyx (.inr ⟨by simpa using hc194, rfl⟩), (S140.take 4)⟩
          · skip
            have hE : at2 = at_ := ((hend at2 s hR2 hs).resolve_right (fun h => by omega)).1
            subst hE
            refine r_exit rfl ?_
            refine r_seq ?_
            refine r_region ?_
            refine l_x rfl (x_as rfl) ?_
            refine l_x rfl (x_as rfl) ?_
            refine l_nil ?_
            refine r_ret (rs := [.tmp 2, .tmp 3]) [_, _] Try.func121 rfl ⟨rfl, rfl, trivial⟩ ?_
            have hL := hC.led hV hw0 hn hto htd htf htm hat hb12 (much := mu) ⟨by omega, by omega, by omega⟩ hAg
            exact .inr ⟨x', _, _, rfl, S1d.take 2, hL.1, hL.2⟩

end Go.Proofs
