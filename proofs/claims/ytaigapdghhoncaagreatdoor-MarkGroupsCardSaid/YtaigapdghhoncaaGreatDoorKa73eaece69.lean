/- Texts joined for claims: LFound. -/
import Derived.Test.YtaigapdghhoncaaGreatDoorKe20527b023
set_option linter.unusedVariables false
set_option linter.unusedSimpArgs false
set_option linter.unusedSectionVars false
namespace Go.Proofs
open Go Go.Vk Go.Vk.Flow

open Go.Vk.Mark
open Go.Vk.Deed (i64 rng rng_iff owners sumI sumI_cons sumI_snoc)

theorem pk_grs {w : World} {v : Value} {rs : List Gw} {ns : List Rsc} (h : (pack [vec EGR v rs, pack ns]).ok w) (hg : GOwn 3 rs ns) : GrsR 91 3 w v rs :=
 gown_rd (h.1 _ (by simp)) (h.1 _ (by simp)) hg
theorem gp_len {b : Sm} {day : Int} {l : List Sg} (h : gpE b day l = 0) : l.length ≤ 60 := bench_len (gpE_begin.trans h)
end Go.Proofs
