/- Texts joined for claims: G12, G13. -/
import Derived.Test.YtdikpjkdbgfoaaaGreatK09575d9689
import Derived.Test.YtdikpjkdbgfoaaaGreatKa0b28afff3
import Derived.Test.YtdikpjkdbgfoaaaGreatK02afaedb64
import Derived.Test.YtdikpjkdbgfoaaaGreatKf4cd3ff627
set_option linter.unusedVariables false
set_option linter.unusedSimpArgs false
set_option linter.unusedSectionVars false
namespace Go.Proofs
open Go Go.Vk Go.Vk.Flow

open Go.Vk.Deed
structure PlayOk (l : List D) (day : Int) : Prop where
 i : StI (doneD l day) (l.filter fun x => decide (x.day ≤ day))
 b : StB (doneD l day)
 n : NN (doneD l day) day
theorem play_okay {l : List D} (hP : PlayL l) (hs : l.Pairwise fun a b => a.day ≤ b.day) (day : Int) : PlayOk l day := by
 have hPf : PlayL (l.filter fun x => decide (x.day ≤ day)) := hP.filter _
 have hI := play_inv _ rfl hPf
 exact ⟨hI, hI.stb hPf.e hPf.len, play_nn _ rfl hPf (hs.filter _) day fun x hx => by simpa using (List.mem_filter.1 hx).2⟩
theorem playl_nil : PlayL [] := ⟨nofun, nofun, List.nodup_nil, by simp [enters, sumI], Nat.zero_le _⟩
theorem ctg_play {l c : List D} {known : Int} (h : c = if rightD l = true then counting l known else []) : PlayL c ∧ c.Pairwise fun a b => a.day ≤ b.day := by
 subst h
 split
 ·next hR => exact ⟨right_play hR, count_sorted hR⟩
 exact ⟨playl_nil, .nil⟩
theorem ctg_on {l c : List D} {known day : Int} (h : c = if rightD l = true then counting l known else []) : doneD c day = onD l known day := by
 subst h
 unfold onD
 split <;> rfl
theorem ctg_len {l : List D} {rq : List Rw} {known : Int} (h : dl rq = if rightD l = true then counting l known else []) : rq.length ≤ 400 := by
 have := (ctg_play h).1.len
 rwa [dl_len] at this
end Go.Proofs

namespace Go.Proofs
open Go Go.Vk Go.Vk.Flow

open Go.Vk.Deed

end Go.Proofs
