/- Facts on the program that the walks use: types, fields, entries. -/
import Derived.Test.YtldagbcceefcdaaDraw
import Derived.Test.YtldagbcceefcdaaProg
import Derived.KernelRfl
namespace Go.Proofs.Ytldagbcceefcdaa
open Go.Proofs

theorem mixed : Try.prog.follows .mixedOrders = true := by kernel_rfl
theorem tk3 : tk Try.prog 3 = some (false, 1) := by kernel_rfl
theorem tk4 : tk Try.prog 4 = some (false, 1) := by kernel_rfl
theorem tk23 : tk Try.prog 23 = some (true, 2) := by kernel_rfl
theorem tk24 : tk Try.prog 24 = some (false, 1) := by kernel_rfl
theorem tk31 : tk Try.prog 31 = some (false, 1) := by kernel_rfl
theorem tk36 : tk Try.prog 36 = some (true, 7) := by kernel_rfl
theorem tk77 : tk Try.prog 77 = some (true, 2) := by kernel_rfl
theorem tk107 : tk Try.prog 107 = some (false, 1) := by kernel_rfl
theorem zv3 : zv Try.prog 3 = some [.int .i64 0] := by kernel_rfl
theorem zv23 : zv Try.prog 23 = some [.int .i64 0, .int .i64 0] := by kernel_rfl
theorem zv24 : zv Try.prog 24 = some [.slice none 0 0] := by kernel_rfl
theorem zv36 : zv Try.prog 36 = some [.int .i64 0, .int .i64 0, .int .i64 0, .int .i64 0, .int .i64 0, .slice none 0 0, .bool false] := by kernel_rfl
theorem zv108 : zv Try.prog 108 = some (List.replicate 10 (.int .i64 0)) := by kernel_rfl
theorem sl24 : sl Try.prog 24 = some (3, 1, 8) := by kernel_rfl
theorem sl31 : sl Try.prog 31 = some (36, 7, 72) := by kernel_rfl
theorem sl51 : sl Try.prog 51 = some (24, 1, 24) := by kernel_rfl
theorem arr108 : arr Try.prog 108 = some (10, 1) := by kernel_rfl
theorem plc23 : plc Try.prog 23 = some [(0, 1), (1, 1)] := by kernel_rfl
theorem plc36 : plc Try.prog 36 = some [(0, 1), (1, 1), (2, 1), (3, 1), (4, 1), (5, 1), (6, 1)] := by kernel_rfl
theorem fo23_0 : fo Try.prog 23 0 = some 0 := by kernel_rfl
theorem fo23_1 : fo Try.prog 23 1 = some 1 := by kernel_rfl
theorem fo36_0 : fo Try.prog 36 0 = some 0 := by kernel_rfl
theorem fo36_1 : fo Try.prog 36 1 = some 1 := by kernel_rfl
theorem fo36_2 : fo Try.prog 36 2 = some 2 := by kernel_rfl
theorem fo36_3 : fo Try.prog 36 3 = some 3 := by kernel_rfl
theorem fo36_4 : fo Try.prog 36 4 = some 4 := by kernel_rfl
theorem fo36_5 : fo Try.prog 36 5 = some 5 := by kernel_rfl
theorem fo36_6 : fo Try.prog 36 6 = some 6 := by kernel_rfl
theorem fo77_0 : fo Try.prog 77 0 = some 0 := by kernel_rfl
theorem fo77_1 : fo Try.prog 77 1 = some 1 := by kernel_rfl
theorem ent17 : Ent Try.prog 17 := ent_of Try.func17 (by kernel_rfl) rfl
theorem ent18 : Ent Try.prog 18 := ent_of Try.func18 (by kernel_rfl) rfl
theorem ent19 : Ent Try.prog 19 := ent_of Try.func19 (by kernel_rfl) rfl
theorem ent20 : Ent Try.prog 20 := ent_of Try.func20 (by kernel_rfl) rfl
theorem ent21 : Ent Try.prog 21 := ent_of Try.func21 (by kernel_rfl) rfl
theorem ent22 : Ent Try.prog 22 := ent_of Try.func22 (by kernel_rfl) rfl
theorem ent23 : Ent Try.prog 23 := ent_of Try.func23 (by kernel_rfl) rfl
theorem ent24 : Ent Try.prog 24 := ent_of Try.func24 (by kernel_rfl) rfl
theorem ent25 : Ent Try.prog 25 := ent_of Try.func25 (by kernel_rfl) rfl
theorem ent26 : Ent Try.prog 26 := ent_of Try.func26 (by kernel_rfl) rfl
theorem ent27 : Ent Try.prog 27 := ent_of Try.func27 (by kernel_rfl) rfl
theorem ent28 : Ent Try.prog 28 := ent_of Try.func28 (by kernel_rfl) rfl
theorem ent29 : Ent Try.prog 29 := ent_of Try.func29 (by kernel_rfl) rfl
theorem ent30 : Ent Try.prog 30 := ent_of Try.func30 (by kernel_rfl) rfl
theorem ent33 : Ent Try.prog 33 := ent_of Try.func33 (by kernel_rfl) rfl
theorem ent34 : Ent Try.prog 34 := ent_of Try.func34 (by kernel_rfl) rfl
theorem ent54 : Ent Try.prog 54 := ent_of Try.func54 (by kernel_rfl) rfl
theorem ent55 : Ent Try.prog 55 := ent_of Try.func55 (by kernel_rfl) rfl
theorem ent56 : Ent Try.prog 56 := ent_of Try.func56 (by kernel_rfl) rfl
theorem ent57 : Ent Try.prog 57 := ent_of Try.func57 (by kernel_rfl) rfl
theorem ent58 : Ent Try.prog 58 := ent_of Try.func58 (by kernel_rfl) rfl
theorem ent59 : Ent Try.prog 59 := ent_of Try.func59 (by kernel_rfl) rfl
theorem ent60 : Ent Try.prog 60 := ent_of Try.func60 (by kernel_rfl) rfl
theorem ent61 : Ent Try.prog 61 := ent_of Try.func61 (by kernel_rfl) rfl
theorem ent62 : Ent Try.prog 62 := ent_of Try.func62 (by kernel_rfl) rfl
theorem ent63 : Ent Try.prog 63 := ent_of Try.func63 (by kernel_rfl) rfl
theorem ent64 : Ent Try.prog 64 := ent_of Try.func64 (by kernel_rfl) rfl
theorem ent65 : Ent Try.prog 65 := ent_of Try.func65 (by kernel_rfl) rfl
theorem ent66 : Ent Try.prog 66 := ent_of Try.func66 (by kernel_rfl) rfl
theorem ent67 : Ent Try.prog 67 := ent_of Try.func67 (by kernel_rfl) rfl
theorem ent70 : Ent Try.prog 70 := ent_of Try.func70 (by kernel_rfl) rfl
theorem ent77 : Ent Try.prog 77 := ent_of Try.func77 (by kernel_rfl) rfl
theorem ent80 : Ent Try.prog 80 := ent_of Try.func80 (by kernel_rfl) rfl
theorem ent81 : Ent Try.prog 81 := ent_of Try.func81 (by kernel_rfl) rfl
theorem ent82 : Ent Try.prog 82 := ent_of Try.func82 (by kernel_rfl) rfl
theorem ent83 : Ent Try.prog 83 := ent_of Try.func83 (by kernel_rfl) rfl
theorem ent84 : Ent Try.prog 84 := ent_of Try.func84 (by kernel_rfl) rfl
theorem ent85 : Ent Try.prog 85 := ent_of Try.func85 (by kernel_rfl) rfl
theorem ent86 : Ent Try.prog 86 := ent_of Try.func86 (by kernel_rfl) rfl
theorem ent87 : Ent Try.prog 87 := ent_of Try.func87 (by kernel_rfl) rfl
theorem ent88 : Ent Try.prog 88 := ent_of Try.func88 (by kernel_rfl) rfl
theorem ent89 : Ent Try.prog 89 := ent_of Try.func89 (by kernel_rfl) rfl
theorem ent90 : Ent Try.prog 90 := ent_of Try.func90 (by kernel_rfl) rfl
theorem ent91 : Ent Try.prog 91 := ent_of Try.func91 (by kernel_rfl) rfl
theorem ent92 : Ent Try.prog 92 := ent_of Try.func92 (by kernel_rfl) rfl
theorem ent93 : Ent Try.prog 93 := ent_of Try.func93 (by kernel_rfl) rfl
theorem ent95 : Ent Try.prog 95 := ent_of Try.func95 (by kernel_rfl) rfl
theorem ent96 : Ent Try.prog 96 := ent_of Try.func96 (by kernel_rfl) rfl
theorem ent97 : Ent Try.prog 97 := ent_of Try.func97 (by kernel_rfl) rfl
theorem ent99 : Ent Try.prog 99 := ent_of Try.func99 (by kernel_rfl) rfl

end Go.Proofs.Ytldagbcceefcdaa
