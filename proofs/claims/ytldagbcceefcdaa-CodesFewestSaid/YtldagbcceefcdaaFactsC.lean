/- Facts on the program that the walks use: types, fields, entries. -/
import Derived.Test.YtldagbcceefcdaaFactsB
import Derived.Test.YtldagbcceefcdaaProg
import Derived.KernelRfl
namespace Go.Proofs.Ytldagbcceefcdaa
open Go.Proofs

theorem fo68_0 : fo Try.prog 68 0 = some 0 := by kernel_rfl
theorem fo68_1 : fo Try.prog 68 1 = some 1 := by kernel_rfl
theorem ent53 : Ent Try.prog 53 := ent_of Try.func53 (by kernel_rfl) rfl

end Go.Proofs.Ytldagbcceefcdaa
