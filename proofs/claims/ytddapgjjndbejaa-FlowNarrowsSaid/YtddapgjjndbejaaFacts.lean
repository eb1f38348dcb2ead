/-
  Facts of the program and of its types.
-/
import Derived.Test.YtddapgjjndbejaaProg
import Derived.Test.YtddapgjjndbejaaVkFlowShow
import Derived.Test.YtddapgjjndbejaaVkMarks
import Derived.Test.YtddapgjjndbejaaVkCopy
namespace Go.Proofs
open Go Go.Vk Go.Vk.Flow

theorem Try.mixed : Try.prog.follows .mixedOrders = true := by kernel_rfl
abbrev EI := intE 3
abbrev EB := boolE 4
abbrev EA := arcE 39
abbrev ES := stpE 126
abbrev EH := hdE 135
theorem zcT : Try.zeroCells89 = (tab 1000 fun _ => 0).toArray := by kernel_rfl
theorem info3 : Try.prog.info? 3 = some Try.t3 := by kernel_rfl
theorem info4 : Try.prog.info? 4 = some Try.t4 := by kernel_rfl
theorem info39 : Try.prog.info? 39 = some Try.t39 := by kernel_rfl
theorem info126 : Try.prog.info? 126 = some Try.t126 := by kernel_rfl
theorem info135 : Try.prog.info? 135 = some Try.t135 := by kernel_rfl
theorem size3 : (Try.prog.info? 3).map (·.size) = some 1 := by rw [info3]; rfl
theorem size4 : (Try.prog.info? 4).map (·.size) = some 1 := by rw [info4]; rfl
theorem size39 : (Try.prog.info? 39).map (·.size) = some 6 := by rw [info39]; rfl
theorem size126 : (Try.prog.info? 126).map (·.size) = some 5 := by rw [info126]; rfl
theorem size135 : (Try.prog.info? 135).map (·.size) = some 1 := by rw [info135]; rfl
theorem cellsI : Try.prog.cellsOf 3 = 1 := by kernel_rfl
theorem decF {p : Prop} [Decidable p] (h : ¬ p) : false = decide p := (decide_eq_false h).symm
theorem decT {p : Prop} [Decidable p] (h : p) : true = decide p := (decide_eq_true h).symm
theorem decE {p q : Prop} [Decidable p] [Decidable q] (h : p ↔ q) : decide p = decide q := decide_eq_decide.2 h

end Go.Proofs
