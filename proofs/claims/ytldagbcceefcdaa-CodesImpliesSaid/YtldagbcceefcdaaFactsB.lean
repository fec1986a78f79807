/- Facts on the program that the walks use: types, fields, entries. -/
import Derived.Test.YtldagbcceefcdaaFacts
import Derived.Test.YtldagbcceefcdaaProg
import Derived.KernelRfl
namespace Go.Proofs.Ytldagbcceefcdaa
open Go.Proofs

theorem tk25 : tk Try.prog 25 = some (false, 1) := by kernel_rfl
theorem tk51 : tk Try.prog 51 = some (false, 1) := by kernel_rfl
theorem zv4 : zv Try.prog 4 = some [.bool false] := by kernel_rfl
theorem zv25 : zv Try.prog 25 = some [.int .i64 0] := by kernel_rfl
theorem zv51 : zv Try.prog 51 = some [.slice none 0 0] := by kernel_rfl
theorem ent31 : Ent Try.prog 31 := ent_of Try.func31 (by kernel_rfl) rfl
theorem ent32 : Ent Try.prog 32 := ent_of Try.func32 (by kernel_rfl) rfl
theorem ent68 : Ent Try.prog 68 := ent_of Try.func68 (by kernel_rfl) rfl
theorem ent69 : Ent Try.prog 69 := ent_of Try.func69 (by kernel_rfl) rfl

end Go.Proofs.Ytldagbcceefcdaa
