/- The proof engine, part 15: ranges over functions within loops: marks that pile up among the deferred calls. Generic over the program. -/
import Derived.Test.YtddapgjjndbejaaVkCut
namespace Go.Vk
open Go

section
variable {P : Program} {b : Frame} {cs : List Frame} {fin : Machine → Prop} {n : Nat} {k : List Item} {ρ : Env} {ds : List Deferred} {w : World}

/-- A loop whose rounds defer calls. -/
theorem r_loopD {G : Type} (μ : G → Nat) (slots : G → List (Nat × Value)) (I : G → World → Prop) (dd : G → List Deferred) {c : Code} (g : G) (ha : Agree ρ (slots g)) (hI : I g w) (hd : ds = dd g)
    (round : ∀ g ρ w, I g w → (∀ g' ρ' w' ds', μ g' < μ g → Agree ρ' (slots g') → I g' w' → ds' = dd g' → Run P b cs fin n (.inLoop c :: k) ρ' ds' w') →
      Run P b cs fin n (.code c :: .inLoop c :: k) (upds ρ (slots g)) (dd g) w) :
    Run P b cs fin n (.code (.loop c) :: k) ρ ds w := by
  subst hd
  have key : ∀ N g ρ w, μ g = N → Agree ρ (slots g) → I g w → Run P b cs fin n (.inLoop c :: k) ρ (dd g) w := by
    intro N
    induction N using Nat.strongRecOn with
    | _ N ih =>
      intro g ρ w hN ha hI
      refine r_inLoop0 ?_
      have := round g ρ w hI fun g' ρ' w' ds' hlt ha' hI' hd' => by subst hd'; exact ih _ (hN ▸ hlt) g' ρ' w' rfl ha' hI'
      rwa [upds_agree ha] at this
  have h := key _ g ρ w rfl ha hI
  refine r_loop0 ?_
  obtain ⟨m, hs, hf⟩ := h
  obtain ⟨j, hj⟩ := hs
  cases j with
  | zero =>
    have := round g ρ w hI fun g' ρ' w' ds' _ ha' hI' hd' => by subst hd'; exact key _ g' ρ' w' rfl ha' hI'
    rwa [upds_agree ha] at this
  | succ j =>
    have := round g ρ w hI fun g' ρ' w' ds' _ ha' hI' hd' => by subst hd'; exact key _ g' ρ' w' rfl ha' hI'
    rwa [upds_agree ha] at this
end

/-- Marks that are owned. -/
def marksR (Ds : List Nat) : Rsc := pack (Ds.map fun D => obj D (.deferred (some [])))

section
variable {X : Nat → Prop} {w0 w : World} {A M : List Rsc} {r : Rsc} {D : Nat} {Ds : List Nat}

theorem Own.nopack (S : Own X w0 w A) : Own X w0 w (A ++ [marksR []]) := by
  refine S.add (Le.refl w) ⟨⟨fun r hr => (by cases hr), fun j k r s hr => (by simp at hr)⟩, fun b hb => ?_⟩
  obtain ⟨r, hr, _⟩ := hb
  cases hr
/-- One mark more. -/
theorem Own.mcons (S : Own X w0 w (A ++ [Vk.obj D (.deferred (some [])), marksR Ds])) : Own X w0 w (A ++ [marksR (D :: Ds)]) := by
  have S1 : Own X w0 w ((A ++ [Vk.obj D (.deferred (some []))]) ++ [Vk.pack (Ds.map fun D => Vk.obj D (.deferred (some [])))]) := by rw [List.append_assoc]; exact S
  have S2 := S1.unpack
  rw [List.append_assoc] at S2
  exact S2.pack (A := A)
theorem Own.drop1 (S : Own X w0 w (A ++ r :: M)) : Own X w0 w (A ++ M) := by
  refine S.perm ((List.range (A.length + M.length)).map fun k => if k < A.length then k else k + 1) ?_ fun k s hs => ?_
  · refine List.Pairwise.map _ (fun a b h => ?_) List.nodup_range
    intro e
    split at e <;> split at e <;> omega
  · have hk : k < A.length + M.length := by have := (List.getElem?_eq_some_iff.1 hs).1; simpa using this
    refine ⟨if k < A.length then k else k + 1, by simp [hk], ?_⟩
    split
    · rename_i h; rw [List.getElem?_append_left h] at hs ⊢; exact hs
    · rename_i h
      rw [List.getElem?_append_right (by omega)] at hs ⊢
      have e : k + 1 - A.length = (k - A.length) + 1 := by omega
      rw [e, List.getElem?_cons_succ]; exact hs
end

section
variable {P : Program} {b : Frame} {cs : List Frame} {fin : Machine → Prop} {n : Nat} {k : List Item} {ρ : Env} {ds : List Deferred} {X : Nat → Prop} {w0 : World} {A : List Rsc}

/-- The way out, through all marks. -/
theorem leave_marks : ∀ (Ds : List Nat) {w : World}, Own X w0 w (A ++ [marksR Ds]) → (∀ w', Own X w0 w' A → Leave P b cs fin n k ρ ds w') → Leave P b cs fin n k ρ (Ds.map mark ++ ds) w := by
  intro Ds
  induction Ds with
  | nil => intro w S h; exact h w (by have := S.take A.length; rwa [List.take_left] at this)
  | cons D Ds ih =>
    intro w S h
    have S1 : Own X w0 w (A ++ (obj D (.deferred (some [])) :: Ds.map fun D => obj D (.deferred (some [])))) := Own.unpack (A := A) S
    refine leave_mark S1 A.length (by simp) fun w' S2 _ => ?_
    rw [List.set_append_right _ _ (Nat.le_refl _), Nat.sub_self, List.set_cons_zero] at S2
    exact ih (Own.pack (A := A) (S2.drop1)) h
end
end Go.Vk
