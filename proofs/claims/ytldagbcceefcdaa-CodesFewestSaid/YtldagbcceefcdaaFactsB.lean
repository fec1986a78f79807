/- Facts on the program that the walks use: types, fields, entries. -/
import Derived.Test.YtldagbcceefcdaaFacts
import Derived.Test.YtldagbcceefcdaaProg
import Derived.KernelRfl
namespace Go.Proofs.Ytldagbcceefcdaa
open Go.Proofs

theorem tk25 : tk Try.prog 25 = some (false, 1) := by kernel_rfl
theorem tk51 : tk Try.prog 51 = some (false, 1) := by kernel_rfl
theorem tk91 : tk Try.prog 91 = some (true, 10) := by kernel_rfl
theorem tk97 : tk Try.prog 97 = some (false, 1) := by kernel_rfl
theorem tk98 : tk Try.prog 98 = some (false, 1) := by kernel_rfl
theorem tk102 : tk Try.prog 102 = some (false, 1) := by kernel_rfl
theorem zv4 : zv Try.prog 4 = some [.bool false] := by kernel_rfl
theorem zv25 : zv Try.prog 25 = some [.int .i64 0] := by kernel_rfl
theorem zv51 : zv Try.prog 51 = some [.slice none 0 0] := by kernel_rfl
theorem zv89 : zv Try.prog 89 = some (List.replicate 25 (.int .i64 0)) := by kernel_rfl
theorem zv92 : zv Try.prog 92 = some (List.replicate 40 (.bool false)) := by kernel_rfl
theorem zv97 : zv Try.prog 97 = some [.pointer none] := by kernel_rfl
theorem zv100 : zv Try.prog 100 = some [.slice none 0 0, .int .i64 0] := by kernel_rfl
theorem zv102 : zv Try.prog 102 = some [.slice none 0 0] := by kernel_rfl
theorem sl98 : sl Try.prog 98 = some (102, 1, 24) := by kernel_rfl
theorem sl102 : sl Try.prog 102 = some (4, 1, 1) := by kernel_rfl
theorem arr88 : arr Try.prog 88 = some (5, 1) := by kernel_rfl
theorem arr89 : arr Try.prog 89 = some (5, 5) := by kernel_rfl
theorem arr91 : arr Try.prog 91 = some (10, 1) := by kernel_rfl
theorem arr92 : arr Try.prog 92 = some (4, 10) := by kernel_rfl
theorem plc100 : plc Try.prog 100 = some [(0, 1), (1, 1)] := by kernel_rfl
theorem fo47_0 : fo Try.prog 47 0 = some 0 := by kernel_rfl
theorem fo47_1 : fo Try.prog 47 1 = some 7 := by kernel_rfl
theorem fo100_0 : fo Try.prog 100 0 = some 0 := by kernel_rfl
theorem fo100_1 : fo Try.prog 100 1 = some 1 := by kernel_rfl
theorem ent31 : Ent Try.prog 31 := ent_of Try.func31 (by kernel_rfl) rfl
theorem ent32 : Ent Try.prog 32 := ent_of Try.func32 (by kernel_rfl) rfl
theorem ent35 : Ent Try.prog 35 := ent_of Try.func35 (by kernel_rfl) rfl
theorem ent36 : Ent Try.prog 36 := ent_of Try.func36 (by kernel_rfl) rfl
theorem ent37 : Ent Try.prog 37 := ent_of Try.func37 (by kernel_rfl) rfl
theorem ent38 : Ent Try.prog 38 := ent_of Try.func38 (by kernel_rfl) rfl
theorem ent39 : Ent Try.prog 39 := ent_of Try.func39 (by kernel_rfl) rfl
theorem ent40 : Ent Try.prog 40 := ent_of Try.func40 (by kernel_rfl) rfl
theorem ent41 : Ent Try.prog 41 := ent_of Try.func41 (by kernel_rfl) rfl
theorem ent42 : Ent Try.prog 42 := ent_of Try.func42 (by kernel_rfl) rfl
theorem ent43 : Ent Try.prog 43 := ent_of Try.func43 (by kernel_rfl) rfl
theorem ent44 : Ent Try.prog 44 := ent_of Try.func44 (by kernel_rfl) rfl
theorem ent45 : Ent Try.prog 45 := ent_of Try.func45 (by kernel_rfl) rfl
theorem ent46 : Ent Try.prog 46 := ent_of Try.func46 (by kernel_rfl) rfl
theorem ent47 : Ent Try.prog 47 := ent_of Try.func47 (by kernel_rfl) rfl
theorem ent48 : Ent Try.prog 48 := ent_of Try.func48 (by kernel_rfl) rfl
theorem ent49 : Ent Try.prog 49 := ent_of Try.func49 (by kernel_rfl) rfl
theorem ent50 : Ent Try.prog 50 := ent_of Try.func50 (by kernel_rfl) rfl
theorem ent51 : Ent Try.prog 51 := ent_of Try.func51 (by kernel_rfl) rfl
theorem ent52 : Ent Try.prog 52 := ent_of Try.func52 (by kernel_rfl) rfl
theorem ent68 : Ent Try.prog 68 := ent_of Try.func68 (by kernel_rfl) rfl
theorem ent69 : Ent Try.prog 69 := ent_of Try.func69 (by kernel_rfl) rfl
theorem ent71 : Ent Try.prog 71 := ent_of Try.func71 (by kernel_rfl) rfl
theorem ent72 : Ent Try.prog 72 := ent_of Try.func72 (by kernel_rfl) rfl
theorem ent73 : Ent Try.prog 73 := ent_of Try.func73 (by kernel_rfl) rfl
theorem ent74 : Ent Try.prog 74 := ent_of Try.func74 (by kernel_rfl) rfl
theorem ent75 : Ent Try.prog 75 := ent_of Try.func75 (by kernel_rfl) rfl
theorem ent76 : Ent Try.prog 76 := ent_of Try.func76 (by kernel_rfl) rfl
theorem ent78 : Ent Try.prog 78 := ent_of Try.func78 (by kernel_rfl) rfl
theorem ent79 : Ent Try.prog 79 := ent_of Try.func79 (by kernel_rfl) rfl
theorem ent94 : Ent Try.prog 94 := ent_of Try.func94 (by kernel_rfl) rfl
theorem ent98 : Ent Try.prog 98 := ent_of Try.func98 (by kernel_rfl) rfl

end Go.Proofs.Ytldagbcceefcdaa
