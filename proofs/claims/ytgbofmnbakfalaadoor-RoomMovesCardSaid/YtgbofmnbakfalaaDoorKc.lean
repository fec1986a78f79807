/- Merged texts of this proof (walks and plain laws), printed by a program of the prover. -/
import Derived.Test.YtgbofmnbakfalaaDoorKb
import Derived.Test.YtgbofmnbakfalaaDoorProg
import Derived.KernelRfl
namespace Go.Proofs.YtgbofmnbakfalaaDoor
open Go.Proofs
theorem mixed : Tryd.prog.follows .mixedOrders = true := by kernel_rfl
theorem tk3 : tk Tryd.prog 3 = some (false, 1) := by kernel_rfl
theorem tk4 : tk Tryd.prog 4 = some (false, 1) := by kernel_rfl
theorem tk9 : tk Tryd.prog 9 = some (false, 1) := by kernel_rfl
theorem tk22 : tk Tryd.prog 22 = some (false, 1) := by kernel_rfl
theorem tk23 : tk Tryd.prog 23 = some (false, 1) := by kernel_rfl
theorem tk24 : tk Tryd.prog 24 = some (false, 1) := by kernel_rfl
theorem tk25 : tk Tryd.prog 25 = some (false, 1) := by kernel_rfl
theorem tk26 : tk Tryd.prog 26 = some (false, 1) := by kernel_rfl
theorem tk27 : tk Tryd.prog 27 = some (false, 1) := by kernel_rfl
theorem tk29 : tk Tryd.prog 29 = some (false, 1) := by kernel_rfl
theorem tk31 : tk Tryd.prog 31 = some (true, 8) := by kernel_rfl
theorem tk35 : tk Tryd.prog 35 = some (false, 1) := by kernel_rfl
theorem tk37 : tk Tryd.prog 37 = some (true, 3) := by kernel_rfl
theorem tk45 : tk Tryd.prog 45 = some (false, 1) := by kernel_rfl
theorem tk52 : tk Tryd.prog 52 = some (true, 3) := by kernel_rfl
theorem tk70 : tk Tryd.prog 70 = some (true, 4) := by kernel_rfl
theorem tk72 : tk Tryd.prog 72 = some (true, 3) := by kernel_rfl
theorem tk74 : tk Tryd.prog 74 = some (true, 3) := by kernel_rfl
theorem tk75 : tk Tryd.prog 75 = some (false, 1) := by kernel_rfl
theorem tk77 : tk Tryd.prog 77 = some (true, 8) := by kernel_rfl
theorem tk79 : tk Tryd.prog 79 = some (true, 2) := by kernel_rfl
theorem tk81 : tk Tryd.prog 81 = some (true, 3) := by kernel_rfl
theorem tk85 : tk Tryd.prog 85 = some (false, 1) := by kernel_rfl
theorem tk117 : tk Tryd.prog 117 = some (true, 3) := by kernel_rfl
theorem zv3 : zv Tryd.prog 3 = some [.int .i64 0] := by kernel_rfl
theorem zv9 : zv Tryd.prog 9 = some [.string ⟨#[]⟩] := by kernel_rfl
theorem zv31 : zv Tryd.prog 31 = some [.slice none 0 0, .slice none 0 0, .slice none 0 0, .slice none 0 0, .slice none 0 0, .slice none 0 0, .int .i64 0, .slice none 0 0] := by kernel_rfl
theorem zv37 : zv Tryd.prog 37 = some [.slice none 0 0, .slice none 0 0, .slice none 0 0] := by kernel_rfl
theorem zv45 : zv Tryd.prog 45 = some [.slice none 0 0] := by kernel_rfl
theorem zv52 : zv Tryd.prog 52 = some [.int .i64 0, .int .i64 0, .int .i64 0] := by kernel_rfl
theorem zv70 : zv Tryd.prog 70 = some [.string ⟨#[]⟩, .int .i64 0, .int .i64 0, .int .i64 0] := by kernel_rfl
theorem zv72 : zv Tryd.prog 72 = some [.string ⟨#[]⟩, .int .i64 0, .slice none 0 0] := by kernel_rfl
theorem zv74 : zv Tryd.prog 74 = some [.int .i64 0, .int .i64 0, .slice none 0 0] := by kernel_rfl
theorem zv77 : zv Tryd.prog 77 = some [.string ⟨#[]⟩, .int .i64 0, .int .i64 0, .slice none 0 0, .slice none 0 0, .slice none 0 0, .slice none 0 0, .slice none 0 0] := by kernel_rfl
theorem zv79 : zv Tryd.prog 79 = some [.int .i64 0, .int .i64 0] := by kernel_rfl
theorem zv81 : zv Tryd.prog 81 = some [.slice none 0 0, .int .i64 0, .int .i64 0] := by kernel_rfl
theorem zv115 : zv Tryd.prog 115 = some [.slice none 0 0, .slice none 0 0, .slice none 0 0, .slice none 0 0, .slice none 0 0, .slice none 0 0, .int .i64 0, .slice none 0 0, .slice none 0 0, .slice none 0 0, .slice none 0 0] := by kernel_rfl
theorem zv117 : zv Tryd.prog 117 = some [.int .i64 0, .int .i64 0, .bool false] := by kernel_rfl
theorem sl22 : sl Tryd.prog 22 = some (9, 1, 16) := by kernel_rfl
theorem sl23 : sl Tryd.prog 23 = some (70, 4, 40) := by kernel_rfl
theorem sl24 : sl Tryd.prog 24 = some (72, 3, 48) := by kernel_rfl
theorem sl25 : sl Tryd.prog 25 = some (74, 3, 40) := by kernel_rfl
theorem sl26 : sl Tryd.prog 26 = some (77, 8, 152) := by kernel_rfl
theorem sl27 : sl Tryd.prog 27 = some (81, 3, 40) := by kernel_rfl
theorem sl29 : sl Tryd.prog 29 = some (117, 3, 24) := by kernel_rfl
theorem sl35 : sl Tryd.prog 35 = some (3, 1, 8) := by kernel_rfl
theorem sl45 : sl Tryd.prog 45 = some (52, 3, 24) := by kernel_rfl
theorem sl75 : sl Tryd.prog 75 = some (79, 2, 16) := by kernel_rfl
theorem plc31 : plc Tryd.prog 31 = some [(0, 1), (1, 1), (2, 1), (3, 1), (4, 1), (5, 1), (6, 1), (7, 1)] := by kernel_rfl
theorem plc37 : plc Tryd.prog 37 = some [(0, 1), (1, 1), (2, 1)] := by kernel_rfl
theorem plc52 : plc Tryd.prog 52 = some [(0, 1), (1, 1), (2, 1)] := by kernel_rfl
theorem plc70 : plc Tryd.prog 70 = some [(0, 1), (1, 1), (2, 1), (3, 1)] := by kernel_rfl
theorem plc72 : plc Tryd.prog 72 = some [(0, 1), (1, 1), (2, 1)] := by kernel_rfl
theorem plc74 : plc Tryd.prog 74 = some [(0, 1), (1, 1), (2, 1)] := by kernel_rfl
theorem plc77 : plc Tryd.prog 77 = some [(0, 1), (1, 1), (2, 1), (3, 1), (4, 1), (5, 1), (6, 1), (7, 1)] := by kernel_rfl
theorem plc79 : plc Tryd.prog 79 = some [(0, 1), (1, 1)] := by kernel_rfl
theorem plc115 : plc Tryd.prog 115 = some [(0, 8), (8, 3)] := by kernel_rfl
theorem plc117 : plc Tryd.prog 117 = some [(0, 1), (1, 1), (2, 1)] := by kernel_rfl
theorem fo31_0 : fo Tryd.prog 31 0 = some 0 := by kernel_rfl
theorem fo31_1 : fo Tryd.prog 31 1 = some 1 := by kernel_rfl
theorem fo31_2 : fo Tryd.prog 31 2 = some 2 := by kernel_rfl
theorem fo31_3 : fo Tryd.prog 31 3 = some 3 := by kernel_rfl
theorem fo31_4 : fo Tryd.prog 31 4 = some 4 := by kernel_rfl
theorem fo31_5 : fo Tryd.prog 31 5 = some 5 := by kernel_rfl
theorem fo31_6 : fo Tryd.prog 31 6 = some 6 := by kernel_rfl
theorem fo31_7 : fo Tryd.prog 31 7 = some 7 := by kernel_rfl
theorem fo37_0 : fo Tryd.prog 37 0 = some 0 := by kernel_rfl
theorem fo37_1 : fo Tryd.prog 37 1 = some 1 := by kernel_rfl
theorem fo37_2 : fo Tryd.prog 37 2 = some 2 := by kernel_rfl
theorem fo52_0 : fo Tryd.prog 52 0 = some 0 := by kernel_rfl
theorem fo52_1 : fo Tryd.prog 52 1 = some 1 := by kernel_rfl
theorem fo52_2 : fo Tryd.prog 52 2 = some 2 := by kernel_rfl
theorem fo70_0 : fo Tryd.prog 70 0 = some 0 := by kernel_rfl
theorem fo70_1 : fo Tryd.prog 70 1 = some 1 := by kernel_rfl
theorem fo70_2 : fo Tryd.prog 70 2 = some 2 := by kernel_rfl
theorem fo70_3 : fo Tryd.prog 70 3 = some 3 := by kernel_rfl
theorem fo72_0 : fo Tryd.prog 72 0 = some 0 := by kernel_rfl
theorem fo72_1 : fo Tryd.prog 72 1 = some 1 := by kernel_rfl
theorem fo72_2 : fo Tryd.prog 72 2 = some 2 := by kernel_rfl
theorem fo74_0 : fo Tryd.prog 74 0 = some 0 := by kernel_rfl
theorem fo74_1 : fo Tryd.prog 74 1 = some 1 := by kernel_rfl
theorem fo74_2 : fo Tryd.prog 74 2 = some 2 := by kernel_rfl
theorem fo77_0 : fo Tryd.prog 77 0 = some 0 := by kernel_rfl
theorem fo77_1 : fo Tryd.prog 77 1 = some 1 := by kernel_rfl
theorem fo77_2 : fo Tryd.prog 77 2 = some 2 := by kernel_rfl
theorem fo77_3 : fo Tryd.prog 77 3 = some 3 := by kernel_rfl
theorem fo77_4 : fo Tryd.prog 77 4 = some 4 := by kernel_rfl
theorem fo77_5 : fo Tryd.prog 77 5 = some 5 := by kernel_rfl
theorem fo77_6 : fo Tryd.prog 77 6 = some 6 := by kernel_rfl
theorem fo77_7 : fo Tryd.prog 77 7 = some 7 := by kernel_rfl
theorem fo79_0 : fo Tryd.prog 79 0 = some 0 := by kernel_rfl
theorem fo79_1 : fo Tryd.prog 79 1 = some 1 := by kernel_rfl
theorem fo81_0 : fo Tryd.prog 81 0 = some 0 := by kernel_rfl
theorem fo81_1 : fo Tryd.prog 81 1 = some 1 := by kernel_rfl
theorem fo115_0 : fo Tryd.prog 115 0 = some 0 := by kernel_rfl
theorem fo115_1 : fo Tryd.prog 115 1 = some 8 := by kernel_rfl
theorem fo117_0 : fo Tryd.prog 117 0 = some 0 := by kernel_rfl
theorem fo117_1 : fo Tryd.prog 117 1 = some 1 := by kernel_rfl
theorem fo117_2 : fo Tryd.prog 117 2 = some 2 := by kernel_rfl
theorem ent12 : Ent Tryd.prog 12 := ent_of Tryd.func12 (by kernel_rfl) rfl
theorem ent13 : Ent Tryd.prog 13 := ent_of Tryd.func13 (by kernel_rfl) rfl
theorem ent14 : Ent Tryd.prog 14 := ent_of Tryd.func14 (by kernel_rfl) rfl
theorem ent15 : Ent Tryd.prog 15 := ent_of Tryd.func15 (by kernel_rfl) rfl
theorem ent16 : Ent Tryd.prog 16 := ent_of Tryd.func16 (by kernel_rfl) rfl
theorem ent17 : Ent Tryd.prog 17 := ent_of Tryd.func17 (by kernel_rfl) rfl
theorem ent18 : Ent Tryd.prog 18 := ent_of Tryd.func18 (by kernel_rfl) rfl
theorem ent19 : Ent Tryd.prog 19 := ent_of Tryd.func19 (by kernel_rfl) rfl
theorem ent20 : Ent Tryd.prog 20 := ent_of Tryd.func20 (by kernel_rfl) rfl
theorem ent21 : Ent Tryd.prog 21 := ent_of Tryd.func21 (by kernel_rfl) rfl
theorem ent22 : Ent Tryd.prog 22 := ent_of Tryd.func22 (by kernel_rfl) rfl
theorem ent23 : Ent Tryd.prog 23 := ent_of Tryd.func23 (by kernel_rfl) rfl
theorem ent24 : Ent Tryd.prog 24 := ent_of Tryd.func24 (by kernel_rfl) rfl
theorem ent25 : Ent Tryd.prog 25 := ent_of Tryd.func25 (by kernel_rfl) rfl
theorem ent26 : Ent Tryd.prog 26 := ent_of Tryd.func26 (by kernel_rfl) rfl
theorem ent27 : Ent Tryd.prog 27 := ent_of Tryd.func27 (by kernel_rfl) rfl
theorem ent28 : Ent Tryd.prog 28 := ent_of Tryd.func28 (by kernel_rfl) rfl
theorem ent29 : Ent Tryd.prog 29 := ent_of Tryd.func29 (by kernel_rfl) rfl
theorem ent30 : Ent Tryd.prog 30 := ent_of Tryd.func30 (by kernel_rfl) rfl
theorem ent31 : Ent Tryd.prog 31 := ent_of Tryd.func31 (by kernel_rfl) rfl
theorem ent32 : Ent Tryd.prog 32 := ent_of Tryd.func32 (by kernel_rfl) rfl
theorem ent33 : Ent Tryd.prog 33 := ent_of Tryd.func33 (by kernel_rfl) rfl
theorem ent34 : Ent Tryd.prog 34 := ent_of Tryd.func34 (by kernel_rfl) rfl
theorem ent35 : Ent Tryd.prog 35 := ent_of Tryd.func35 (by kernel_rfl) rfl
theorem ent36 : Ent Tryd.prog 36 := ent_of Tryd.func36 (by kernel_rfl) rfl
theorem ent37 : Ent Tryd.prog 37 := ent_of Tryd.func37 (by kernel_rfl) rfl
theorem ent38 : Ent Tryd.prog 38 := ent_of Tryd.func38 (by kernel_rfl) rfl
theorem ent39 : Ent Tryd.prog 39 := ent_of Tryd.func39 (by kernel_rfl) rfl
theorem ent40 : Ent Tryd.prog 40 := ent_of Tryd.func40 (by kernel_rfl) rfl
theorem ent41 : Ent Tryd.prog 41 := ent_of Tryd.func41 (by kernel_rfl) rfl
theorem ent42 : Ent Tryd.prog 42 := ent_of Tryd.func42 (by kernel_rfl) rfl
theorem ent43 : Ent Tryd.prog 43 := ent_of Tryd.func43 (by kernel_rfl) rfl
theorem ent44 : Ent Tryd.prog 44 := ent_of Tryd.func44 (by kernel_rfl) rfl
theorem ent45 : Ent Tryd.prog 45 := ent_of Tryd.func45 (by kernel_rfl) rfl
theorem ent46 : Ent Tryd.prog 46 := ent_of Tryd.func46 (by kernel_rfl) rfl
theorem ent47 : Ent Tryd.prog 47 := ent_of Tryd.func47 (by kernel_rfl) rfl
theorem ent48 : Ent Tryd.prog 48 := ent_of Tryd.func48 (by kernel_rfl) rfl
theorem ent49 : Ent Tryd.prog 49 := ent_of Tryd.func49 (by kernel_rfl) rfl
theorem ent50 : Ent Tryd.prog 50 := ent_of Tryd.func50 (by kernel_rfl) rfl
theorem ent51 : Ent Tryd.prog 51 := ent_of Tryd.func51 (by kernel_rfl) rfl
theorem ent52 : Ent Tryd.prog 52 := ent_of Tryd.func52 (by kernel_rfl) rfl
theorem ent53 : Ent Tryd.prog 53 := ent_of Tryd.func53 (by kernel_rfl) rfl
theorem ent54 : Ent Tryd.prog 54 := ent_of Tryd.func54 (by kernel_rfl) rfl
theorem ent55 : Ent Tryd.prog 55 := ent_of Tryd.func55 (by kernel_rfl) rfl
theorem ent56 : Ent Tryd.prog 56 := ent_of Tryd.func56 (by kernel_rfl) rfl
theorem ent57 : Ent Tryd.prog 57 := ent_of Tryd.func57 (by kernel_rfl) rfl
theorem ent58 : Ent Tryd.prog 58 := ent_of Tryd.func58 (by kernel_rfl) rfl
theorem ent59 : Ent Tryd.prog 59 := ent_of Tryd.func59 (by kernel_rfl) rfl
theorem ent60 : Ent Tryd.prog 60 := ent_of Tryd.func60 (by kernel_rfl) rfl
theorem ent61 : Ent Tryd.prog 61 := ent_of Tryd.func61 (by kernel_rfl) rfl
theorem ent62 : Ent Tryd.prog 62 := ent_of Tryd.func62 (by kernel_rfl) rfl
theorem ent63 : Ent Tryd.prog 63 := ent_of Tryd.func63 (by kernel_rfl) rfl
theorem ent64 : Ent Tryd.prog 64 := ent_of Tryd.func64 (by kernel_rfl) rfl
theorem ent65 : Ent Tryd.prog 65 := ent_of Tryd.func65 (by kernel_rfl) rfl
theorem ent66 : Ent Tryd.prog 66 := ent_of Tryd.func66 (by kernel_rfl) rfl
theorem ent67 : Ent Tryd.prog 67 := ent_of Tryd.func67 (by kernel_rfl) rfl
theorem ent68 : Ent Tryd.prog 68 := ent_of Tryd.func68 (by kernel_rfl) rfl
theorem ent69 : Ent Tryd.prog 69 := ent_of Tryd.func69 (by kernel_rfl) rfl
theorem ent70 : Ent Tryd.prog 70 := ent_of Tryd.func70 (by kernel_rfl) rfl
theorem ent71 : Ent Tryd.prog 71 := ent_of Tryd.func71 (by kernel_rfl) rfl
theorem ent72 : Ent Tryd.prog 72 := ent_of Tryd.func72 (by kernel_rfl) rfl
theorem ent73 : Ent Tryd.prog 73 := ent_of Tryd.func73 (by kernel_rfl) rfl
theorem ent74 : Ent Tryd.prog 74 := ent_of Tryd.func74 (by kernel_rfl) rfl
theorem ent75 : Ent Tryd.prog 75 := ent_of Tryd.func75 (by kernel_rfl) rfl
theorem ent76 : Ent Tryd.prog 76 := ent_of Tryd.func76 (by kernel_rfl) rfl
theorem ent77 : Ent Tryd.prog 77 := ent_of Tryd.func77 (by kernel_rfl) rfl
theorem ent78 : Ent Tryd.prog 78 := ent_of Tryd.func78 (by kernel_rfl) rfl
theorem ent79 : Ent Tryd.prog 79 := ent_of Tryd.func79 (by kernel_rfl) rfl
theorem ent80 : Ent Tryd.prog 80 := ent_of Tryd.func80 (by kernel_rfl) rfl
theorem ent81 : Ent Tryd.prog 81 := ent_of Tryd.func81 (by kernel_rfl) rfl
theorem ent82 : Ent Tryd.prog 82 := ent_of Tryd.func82 (by kernel_rfl) rfl
theorem ent83 : Ent Tryd.prog 83 := ent_of Tryd.func83 (by kernel_rfl) rfl
theorem ent84 : Ent Tryd.prog 84 := ent_of Tryd.func84 (by kernel_rfl) rfl
theorem ent85 : Ent Tryd.prog 85 := ent_of Tryd.func85 (by kernel_rfl) rfl
theorem ent86 : Ent Tryd.prog 86 := ent_of Tryd.func86 (by kernel_rfl) rfl
theorem ent87 : Ent Tryd.prog 87 := ent_of Tryd.func87 (by kernel_rfl) rfl
theorem ent88 : Ent Tryd.prog 88 := ent_of Tryd.func88 (by kernel_rfl) rfl
theorem ent89 : Ent Tryd.prog 89 := ent_of Tryd.func89 (by kernel_rfl) rfl
theorem ent90 : Ent Tryd.prog 90 := ent_of Tryd.func90 (by kernel_rfl) rfl
theorem ent91 : Ent Tryd.prog 91 := ent_of Tryd.func91 (by kernel_rfl) rfl
theorem ent92 : Ent Tryd.prog 92 := ent_of Tryd.func92 (by kernel_rfl) rfl
theorem ent93 : Ent Tryd.prog 93 := ent_of Tryd.func93 (by kernel_rfl) rfl
theorem ent94 : Ent Tryd.prog 94 := ent_of Tryd.func94 (by kernel_rfl) rfl
theorem ent95 : Ent Tryd.prog 95 := ent_of Tryd.func95 (by kernel_rfl) rfl
theorem ent96 : Ent Tryd.prog 96 := ent_of Tryd.func96 (by kernel_rfl) rfl
theorem ent97 : Ent Tryd.prog 97 := ent_of Tryd.func97 (by kernel_rfl) rfl
theorem ent98 : Ent Tryd.prog 98 := ent_of Tryd.func98 (by kernel_rfl) rfl
theorem ent99 : Ent Tryd.prog 99 := ent_of Tryd.func99 (by kernel_rfl) rfl
theorem ent100 : Ent Tryd.prog 100 := ent_of Tryd.func100 (by kernel_rfl) rfl
theorem ent101 : Ent Tryd.prog 101 := ent_of Tryd.func101 (by kernel_rfl) rfl
theorem ent102 : Ent Tryd.prog 102 := ent_of Tryd.func102 (by kernel_rfl) rfl
theorem ent103 : Ent Tryd.prog 103 := ent_of Tryd.func103 (by kernel_rfl) rfl
theorem ent104 : Ent Tryd.prog 104 := ent_of Tryd.func104 (by kernel_rfl) rfl
theorem ent105 : Ent Tryd.prog 105 := ent_of Tryd.func105 (by kernel_rfl) rfl
theorem ent106 : Ent Tryd.prog 106 := ent_of Tryd.func106 (by kernel_rfl) rfl
theorem ent107 : Ent Tryd.prog 107 := ent_of Tryd.func107 (by kernel_rfl) rfl
theorem ent108 : Ent Tryd.prog 108 := ent_of Tryd.func108 (by kernel_rfl) rfl
theorem ent109 : Ent Tryd.prog 109 := ent_of Tryd.func109 (by kernel_rfl) rfl
theorem ent110 : Ent Tryd.prog 110 := ent_of Tryd.func110 (by kernel_rfl) rfl
theorem ent111 : Ent Tryd.prog 111 := ent_of Tryd.func111 (by kernel_rfl) rfl
theorem ent112 : Ent Tryd.prog 112 := ent_of Tryd.func112 (by kernel_rfl) rfl
theorem ent113 : Ent Tryd.prog 113 := ent_of Tryd.func113 (by kernel_rfl) rfl
theorem ent114 : Ent Tryd.prog 114 := ent_of Tryd.func114 (by kernel_rfl) rfl
theorem ent115 : Ent Tryd.prog 115 := ent_of Tryd.func115 (by kernel_rfl) rfl
theorem ent116 : Ent Tryd.prog 116 := ent_of Tryd.func116 (by kernel_rfl) rfl
theorem ent117 : Ent Tryd.prog 117 := ent_of Tryd.func117 (by kernel_rfl) rfl
theorem ent118 : Ent Tryd.prog 118 := ent_of Tryd.func118 (by kernel_rfl) rfl
theorem ent119 : Ent Tryd.prog 119 := ent_of Tryd.func119 (by kernel_rfl) rfl
theorem ent120 : Ent Tryd.prog 120 := ent_of Tryd.func120 (by kernel_rfl) rfl
theorem ent121 : Ent Tryd.prog 121 := ent_of Tryd.func121 (by kernel_rfl) rfl
end Go.Proofs.YtgbofmnbakfalaaDoor
namespace Go.Proofs.YtgbofmnbakfalaaDoor
open Go.Proofs
theorem tk89 : tk Tryd.prog 89 = some (false, 1) := by kernel_rfl
theorem tk91 : tk Tryd.prog 91 = some (false, 1) := by kernel_rfl
theorem tk93 : tk Tryd.prog 93 = some (false, 1) := by kernel_rfl
theorem tk95 : tk Tryd.prog 95 = some (false, 1) := by kernel_rfl
theorem tk124 : tk Tryd.prog 124 = some (false, 1) := by kernel_rfl
theorem zv89 : zv Tryd.prog 89 = some [.nilFunc] := by kernel_rfl
end Go.Proofs.YtgbofmnbakfalaaDoor
namespace Go.Proofs.YtgbofmnbakfalaaDoor
open Go.Proofs
theorem zv85 : zv Tryd.prog 85 = some [.pointer none] := by kernel_rfl
end Go.Proofs.YtgbofmnbakfalaaDoor
