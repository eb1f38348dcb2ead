/- Texts joined for claims: C1. -/
import Derived.Test.YtaigapdghhoncaaGreatDoorK7a325aec7b
import Derived.Test.YtaigapdghhoncaaGreatDoorK0709bddfd5
import Derived.Test.YtaigapdghhoncaaGreatDoorK6d2c2eb465
import Derived.Stop.LaidErr
import Derived.ChangeMaps5
set_option linter.unusedVariables false
set_option linter.unusedSimpArgs false
set_option linter.unusedSectionVars false
namespace Go.Proofs
open Go Go.Vk Go.Vk.Flow

open Go.Vk.Mark
open Go.Vk.Deed (i64 rng rng_iff owners sumI sumI_cons sumI_snoc)
open Go.ChangeShapes Go.WideShapes Go.RowKit Go.Joins
theorem starT : "*" ++ "errors.errorString" = "*errors.errorString" := by decide
theorem rowErrT (u : TypeId) (h : Tryz.prog.typeName? 3 u = some "*errors.errorString") : u = 300 :=
 typeName_ptr_named (nm := "errors.errorString") (by rw [starT]; kernel_rfl) (by kernel_rfl) (by decide) u (by rw [starT]; exact h)
theorem gl2_of {W : World} (hsh : W.ShapedOpen Tryz.prog) (hx : laidMetH Tryz.prog YtaigapdghhoncaaGreatDoor.Rows.markTextsRow.laid W) : Gl2 W := by
 have hL : laidMet Tryz.prog YtaigapdghhoncaaGreatDoor.Rows.markTextsRow.laid W := by
  rw [← MakeChecks.laidMetH_plain _ _ _ (by kernel_rfl)]; exact hx
 have h2 := hL.tail.tail
 have e2 : (YtaigapdghhoncaaGreatDoor.Rows.laid_internal_strconv_uint64pow10 : DataW Unit) = Lib.tabData .u64 Lib.pow10Tab := by kernel_rfl
 unfold YtaigapdghhoncaaGreatDoor.Rows.markTextsRow at h2
 rw [e2] at h2
 obtain ⟨a0, s0, hv0, _⟩ := laid_sentinel hL.tail.tail.tail.tail (show Tryz.prog.globalNamed "strconv.ErrRange" = some 3 by kernel_rfl) (show (Tryz.prog.globals[3]?).map (·.type) = some 214 by kernel_rfl) Tryz.underlying214 rowErrT Tryz.underlying300 Tryz.underlying302 rfl rfl Tryz.underlying9 (by kernel_rfl) (by kernel_rfl)
 obtain ⟨a1, s1, hv1, _⟩ := laid_sentinel hL.tail.tail.tail.tail.tail (show Tryz.prog.globalNamed "strconv.ErrSyntax" = some 2 by kernel_rfl) (show (Tryz.prog.globals[2]?).map (·.type) = some 214 by kernel_rfl) Tryz.underlying214 rowErrT Tryz.underlying300 Tryz.underlying302 rfl rfl Tryz.underlying9 (by kernel_rfl) (by kernel_rfl)
 exact ⟨gl_of hsh, ⟨_, by simpa using World.var?_cell (by kernel_rfl) hv1 0, .inr ⟨_, _, rfl⟩⟩, ⟨_, by simpa using World.var?_cell (by kernel_rfl) hv0 0, .inr ⟨_, _, rfl⟩⟩,
  Lib.tabIs_of_head (g := 0) (t := 276) (e := 244) (n := 20) (by kernel_rfl) (by kernel_rfl) (by kernel_rfl) (by kernel_rfl) (by kernel_rfl) (by kernel_rfl) h2⟩

end Go.Proofs
