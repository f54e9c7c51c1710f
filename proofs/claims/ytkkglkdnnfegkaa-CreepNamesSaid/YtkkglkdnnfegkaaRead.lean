/-
  How the arguments of the statements are read: a material, runs, a plan, words.
-/
import Derived.Test.YtkkglkdnnfegkaaEngW
import Derived.Test.YtkkglkdnnfegkaaBa
import Derived.Test.YtkkglkdnnfegkaaRows
import Derived.SizedLaws
set_option linter.unusedSimpArgs false
set_option linter.unusedVariables false
namespace Go.Proofs.Ytkkglkdnnfegkaa
open Go.RowKit Go.Eng Go.ChangeShapes Go.WideShapes Go.ChangeAt Go.Joins Go.Deep
theorem Try.own : ownKnob Try.prog.godebug = none := by kernel_rfl
theorem Try.laidOut : laidOutB Try.prog = true := by kernel_rfl
section
variable {H : Type} {enc : TypeId × Value → H} {W : World} {r : Reach} {b0 : Nat}
end
end Go.Proofs.Ytkkglkdnnfegkaa
