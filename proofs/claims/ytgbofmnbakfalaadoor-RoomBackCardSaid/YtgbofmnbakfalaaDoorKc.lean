/- Merged texts of this proof (walks and plain laws), printed by a program of the prover. -/
import Derived.Test.YtgbofmnbakfalaaDoorKb
import Derived.Test.YtgbofmnbakfalaaDoorProg
import Derived.KernelRfl
namespace Go.Proofs.YtgbofmnbakfalaaDoor
open Go.Proofs
theorem mixed : Tryd.prog.follows .mixedOrders = true := by kernel_rfl
theorem tk3 : tk Tryd.prog 3 = some (false, 1) := by kernel_rfl
theorem tk9 : tk Tryd.prog 9 = some (false, 1) := by kernel_rfl
theorem tk22 : tk Tryd.prog 22 = some (false, 1) := by kernel_rfl
theorem tk29 : tk Tryd.prog 29 = some (false, 1) := by kernel_rfl
theorem tk31 : tk Tryd.prog 31 = some (true, 8) := by kernel_rfl
theorem tk37 : tk Tryd.prog 37 = some (true, 3) := by kernel_rfl
theorem tk45 : tk Tryd.prog 45 = some (false, 1) := by kernel_rfl
theorem tk52 : tk Tryd.prog 52 = some (true, 3) := by kernel_rfl
theorem tk77 : tk Tryd.prog 77 = some (true, 8) := by kernel_rfl
theorem zv3 : zv Tryd.prog 3 = some [.int .i64 0] := by kernel_rfl
theorem zv9 : zv Tryd.prog 9 = some [.string ⟨#[]⟩] := by kernel_rfl
theorem zv31 : zv Tryd.prog 31 = some [.slice none 0 0, .slice none 0 0, .slice none 0 0, .slice none 0 0, .slice none 0 0, .slice none 0 0, .int .i64 0, .slice none 0 0] := by kernel_rfl
theorem zv37 : zv Tryd.prog 37 = some [.slice none 0 0, .slice none 0 0, .slice none 0 0] := by kernel_rfl
theorem zv45 : zv Tryd.prog 45 = some [.slice none 0 0] := by kernel_rfl
theorem zv52 : zv Tryd.prog 52 = some [.int .i64 0, .int .i64 0, .int .i64 0] := by kernel_rfl
theorem zv70 : zv Tryd.prog 70 = some [.string ⟨#[]⟩, .int .i64 0, .int .i64 0, .int .i64 0] := by kernel_rfl
theorem zv72 : zv Tryd.prog 72 = some [.string ⟨#[]⟩, .int .i64 0, .slice none 0 0] := by kernel_rfl
theorem zv74 : zv Tryd.prog 74 = some [.int .i64 0, .int .i64 0, .slice none 0 0] := by kernel_rfl
theorem zv77 : zv Tryd.prog 77 = some [.string ⟨#[]⟩, .int .i64 0, .int .i64 0, .slice none 0 0, .slice none 0 0, .slice none 0 0, .slice none 0 0, .slice none 0 0] := by kernel_rfl
theorem zv79 : zv Tryd.prog 79 = some [.int .i64 0, .int .i64 0] := by kernel_rfl
theorem zv81 : zv Tryd.prog 81 = some [.slice none 0 0, .int .i64 0, .int .i64 0] := by kernel_rfl
theorem zv115 : zv Tryd.prog 115 = some [.slice none 0 0, .slice none 0 0, .slice none 0 0, .slice none 0 0, .slice none 0 0, .slice none 0 0, .int .i64 0, .slice none 0 0, .slice none 0 0, .slice none 0 0, .slice none 0 0] := by kernel_rfl
theorem zv117 : zv Tryd.prog 117 = some [.int .i64 0, .int .i64 0, .bool false] := by kernel_rfl
theorem sl22 : sl Tryd.prog 22 = some (9, 1, 16) := by kernel_rfl
theorem sl23 : sl Tryd.prog 23 = some (70, 4, 40) := by kernel_rfl
theorem sl24 : sl Tryd.prog 24 = some (72, 3, 48) := by kernel_rfl
theorem sl25 : sl Tryd.prog 25 = some (74, 3, 40) := by kernel_rfl
theorem sl26 : sl Tryd.prog 26 = some (77, 8, 152) := by kernel_rfl
theorem sl27 : sl Tryd.prog 27 = some (81, 3, 40) := by kernel_rfl
theorem sl29 : sl Tryd.prog 29 = some (117, 3, 24) := by kernel_rfl
theorem sl35 : sl Tryd.prog 35 = some (3, 1, 8) := by kernel_rfl
theorem sl45 : sl Tryd.prog 45 = some (52, 3, 24) := by kernel_rfl
theorem sl75 : sl Tryd.prog 75 = some (79, 2, 16) := by kernel_rfl
theorem plc31 : plc Tryd.prog 31 = some [(0, 1), (1, 1), (2, 1), (3, 1), (4, 1), (5, 1), (6, 1), (7, 1)] := by kernel_rfl
theorem plc37 : plc Tryd.prog 37 = some [(0, 1), (1, 1), (2, 1)] := by kernel_rfl
theorem plc52 : plc Tryd.prog 52 = some [(0, 1), (1, 1), (2, 1)] := by kernel_rfl
theorem plc70 : plc Tryd.prog 70 = some [(0, 1), (1, 1), (2, 1), (3, 1)] := by kernel_rfl
theorem plc72 : plc Tryd.prog 72 = some [(0, 1), (1, 1), (2, 1)] := by kernel_rfl
theorem plc74 : plc Tryd.prog 74 = some [(0, 1), (1, 1), (2, 1)] := by kernel_rfl
theorem plc77 : plc Tryd.prog 77 = some [(0, 1), (1, 1), (2, 1), (3, 1), (4, 1), (5, 1), (6, 1), (7, 1)] := by kernel_rfl
theorem plc79 : plc Tryd.prog 79 = some [(0, 1), (1, 1)] := by kernel_rfl
theorem plc115 : plc Tryd.prog 115 = some [(0, 8), (8, 3)] := by kernel_rfl
theorem plc117 : plc Tryd.prog 117 = some [(0, 1), (1, 1), (2, 1)] := by kernel_rfl
theorem ent12 : Ent Tryd.prog 12 := ent_of Tryd.func12 (by kernel_rfl) rfl
theorem ent13 : Ent Tryd.prog 13 := ent_of Tryd.func13 (by kernel_rfl) rfl
theorem ent14 : Ent Tryd.prog 14 := ent_of Tryd.func14 (by kernel_rfl) rfl
theorem ent15 : Ent Tryd.prog 15 := ent_of Tryd.func15 (by kernel_rfl) rfl
theorem ent17 : Ent Tryd.prog 17 := ent_of Tryd.func17 (by kernel_rfl) rfl
theorem ent18 : Ent Tryd.prog 18 := ent_of Tryd.func18 (by kernel_rfl) rfl
theorem ent19 : Ent Tryd.prog 19 := ent_of Tryd.func19 (by kernel_rfl) rfl
theorem ent21 : Ent Tryd.prog 21 := ent_of Tryd.func21 (by kernel_rfl) rfl
theorem ent22 : Ent Tryd.prog 22 := ent_of Tryd.func22 (by kernel_rfl) rfl
theorem ent23 : Ent Tryd.prog 23 := ent_of Tryd.func23 (by kernel_rfl) rfl
theorem ent26 : Ent Tryd.prog 26 := ent_of Tryd.func26 (by kernel_rfl) rfl
theorem ent28 : Ent Tryd.prog 28 := ent_of Tryd.func28 (by kernel_rfl) rfl
theorem ent30 : Ent Tryd.prog 30 := ent_of Tryd.func30 (by kernel_rfl) rfl
theorem ent31 : Ent Tryd.prog 31 := ent_of Tryd.func31 (by kernel_rfl) rfl
theorem ent36 : Ent Tryd.prog 36 := ent_of Tryd.func36 (by kernel_rfl) rfl
theorem ent37 : Ent Tryd.prog 37 := ent_of Tryd.func37 (by kernel_rfl) rfl
theorem ent41 : Ent Tryd.prog 41 := ent_of Tryd.func41 (by kernel_rfl) rfl
theorem ent42 : Ent Tryd.prog 42 := ent_of Tryd.func42 (by kernel_rfl) rfl
theorem ent43 : Ent Tryd.prog 43 := ent_of Tryd.func43 (by kernel_rfl) rfl
theorem ent44 : Ent Tryd.prog 44 := ent_of Tryd.func44 (by kernel_rfl) rfl
theorem ent45 : Ent Tryd.prog 45 := ent_of Tryd.func45 (by kernel_rfl) rfl
theorem ent46 : Ent Tryd.prog 46 := ent_of Tryd.func46 (by kernel_rfl) rfl
theorem ent47 : Ent Tryd.prog 47 := ent_of Tryd.func47 (by kernel_rfl) rfl
theorem ent48 : Ent Tryd.prog 48 := ent_of Tryd.func48 (by kernel_rfl) rfl
theorem ent49 : Ent Tryd.prog 49 := ent_of Tryd.func49 (by kernel_rfl) rfl
theorem ent50 : Ent Tryd.prog 50 := ent_of Tryd.func50 (by kernel_rfl) rfl
theorem ent51 : Ent Tryd.prog 51 := ent_of Tryd.func51 (by kernel_rfl) rfl
theorem ent52 : Ent Tryd.prog 52 := ent_of Tryd.func52 (by kernel_rfl) rfl
theorem ent53 : Ent Tryd.prog 53 := ent_of Tryd.func53 (by kernel_rfl) rfl
theorem ent54 : Ent Tryd.prog 54 := ent_of Tryd.func54 (by kernel_rfl) rfl
theorem ent55 : Ent Tryd.prog 55 := ent_of Tryd.func55 (by kernel_rfl) rfl
theorem ent56 : Ent Tryd.prog 56 := ent_of Tryd.func56 (by kernel_rfl) rfl
theorem ent57 : Ent Tryd.prog 57 := ent_of Tryd.func57 (by kernel_rfl) rfl
theorem ent58 : Ent Tryd.prog 58 := ent_of Tryd.func58 (by kernel_rfl) rfl
theorem ent59 : Ent Tryd.prog 59 := ent_of Tryd.func59 (by kernel_rfl) rfl
theorem ent60 : Ent Tryd.prog 60 := ent_of Tryd.func60 (by kernel_rfl) rfl
theorem ent61 : Ent Tryd.prog 61 := ent_of Tryd.func61 (by kernel_rfl) rfl
theorem ent62 : Ent Tryd.prog 62 := ent_of Tryd.func62 (by kernel_rfl) rfl
theorem ent63 : Ent Tryd.prog 63 := ent_of Tryd.func63 (by kernel_rfl) rfl
theorem ent64 : Ent Tryd.prog 64 := ent_of Tryd.func64 (by kernel_rfl) rfl
theorem ent67 : Ent Tryd.prog 67 := ent_of Tryd.func67 (by kernel_rfl) rfl
theorem ent68 : Ent Tryd.prog 68 := ent_of Tryd.func68 (by kernel_rfl) rfl
theorem ent70 : Ent Tryd.prog 70 := ent_of Tryd.func70 (by kernel_rfl) rfl
theorem ent74 : Ent Tryd.prog 74 := ent_of Tryd.func74 (by kernel_rfl) rfl
theorem ent76 : Ent Tryd.prog 76 := ent_of Tryd.func76 (by kernel_rfl) rfl
theorem ent77 : Ent Tryd.prog 77 := ent_of Tryd.func77 (by kernel_rfl) rfl
theorem ent78 : Ent Tryd.prog 78 := ent_of Tryd.func78 (by kernel_rfl) rfl
theorem ent79 : Ent Tryd.prog 79 := ent_of Tryd.func79 (by kernel_rfl) rfl
theorem ent80 : Ent Tryd.prog 80 := ent_of Tryd.func80 (by kernel_rfl) rfl
theorem ent81 : Ent Tryd.prog 81 := ent_of Tryd.func81 (by kernel_rfl) rfl
theorem ent82 : Ent Tryd.prog 82 := ent_of Tryd.func82 (by kernel_rfl) rfl
theorem ent83 : Ent Tryd.prog 83 := ent_of Tryd.func83 (by kernel_rfl) rfl
theorem ent84 : Ent Tryd.prog 84 := ent_of Tryd.func84 (by kernel_rfl) rfl
theorem ent85 : Ent Tryd.prog 85 := ent_of Tryd.func85 (by kernel_rfl) rfl
theorem ent86 : Ent Tryd.prog 86 := ent_of Tryd.func86 (by kernel_rfl) rfl
theorem ent87 : Ent Tryd.prog 87 := ent_of Tryd.func87 (by kernel_rfl) rfl
theorem ent88 : Ent Tryd.prog 88 := ent_of Tryd.func88 (by kernel_rfl) rfl
theorem ent89 : Ent Tryd.prog 89 := ent_of Tryd.func89 (by kernel_rfl) rfl
theorem ent90 : Ent Tryd.prog 90 := ent_of Tryd.func90 (by kernel_rfl) rfl
theorem ent91 : Ent Tryd.prog 91 := ent_of Tryd.func91 (by kernel_rfl) rfl
theorem ent92 : Ent Tryd.prog 92 := ent_of Tryd.func92 (by kernel_rfl) rfl
theorem ent93 : Ent Tryd.prog 93 := ent_of Tryd.func93 (by kernel_rfl) rfl
theorem ent94 : Ent Tryd.prog 94 := ent_of Tryd.func94 (by kernel_rfl) rfl
theorem ent95 : Ent Tryd.prog 95 := ent_of Tryd.func95 (by kernel_rfl) rfl
theorem ent96 : Ent Tryd.prog 96 := ent_of Tryd.func96 (by kernel_rfl) rfl
theorem ent97 : Ent Tryd.prog 97 := ent_of Tryd.func97 (by kernel_rfl) rfl
theorem ent98 : Ent Tryd.prog 98 := ent_of Tryd.func98 (by kernel_rfl) rfl
theorem ent99 : Ent Tryd.prog 99 := ent_of Tryd.func99 (by kernel_rfl) rfl
theorem ent100 : Ent Tryd.prog 100 := ent_of Tryd.func100 (by kernel_rfl) rfl
theorem ent101 : Ent Tryd.prog 101 := ent_of Tryd.func101 (by kernel_rfl) rfl
theorem ent103 : Ent Tryd.prog 103 := ent_of Tryd.func103 (by kernel_rfl) rfl
theorem ent104 : Ent Tryd.prog 104 := ent_of Tryd.func104 (by kernel_rfl) rfl
theorem ent105 : Ent Tryd.prog 105 := ent_of Tryd.func105 (by kernel_rfl) rfl
theorem ent106 : Ent Tryd.prog 106 := ent_of Tryd.func106 (by kernel_rfl) rfl
theorem ent107 : Ent Tryd.prog 107 := ent_of Tryd.func107 (by kernel_rfl) rfl
theorem ent108 : Ent Tryd.prog 108 := ent_of Tryd.func108 (by kernel_rfl) rfl
theorem ent109 : Ent Tryd.prog 109 := ent_of Tryd.func109 (by kernel_rfl) rfl
theorem ent110 : Ent Tryd.prog 110 := ent_of Tryd.func110 (by kernel_rfl) rfl
theorem ent111 : Ent Tryd.prog 111 := ent_of Tryd.func111 (by kernel_rfl) rfl
theorem ent112 : Ent Tryd.prog 112 := ent_of Tryd.func112 (by kernel_rfl) rfl
theorem ent113 : Ent Tryd.prog 113 := ent_of Tryd.func113 (by kernel_rfl) rfl
theorem ent114 : Ent Tryd.prog 114 := ent_of Tryd.func114 (by kernel_rfl) rfl
theorem ent115 : Ent Tryd.prog 115 := ent_of Tryd.func115 (by kernel_rfl) rfl
theorem ent116 : Ent Tryd.prog 116 := ent_of Tryd.func116 (by kernel_rfl) rfl
theorem ent117 : Ent Tryd.prog 117 := ent_of Tryd.func117 (by kernel_rfl) rfl
theorem ent118 : Ent Tryd.prog 118 := ent_of Tryd.func118 (by kernel_rfl) rfl
theorem ent119 : Ent Tryd.prog 119 := ent_of Tryd.func119 (by kernel_rfl) rfl
theorem ent120 : Ent Tryd.prog 120 := ent_of Tryd.func120 (by kernel_rfl) rfl
theorem ent121 : Ent Tryd.prog 121 := ent_of Tryd.func121 (by kernel_rfl) rfl
instance : Fx Tryd.prog where
  ft := (.n (.n (.n (.n (.n (.n .o 7 [0,1,2,3] .o) 8 [0,1,2,3] .o) 13 [0,1] (.n .o 14 [0,1] .o)) 18 [0] (.n (.n .o 19 [0] .o) 30 [0,1,2,3,4,5,6,7] (.n .o 31 [0,1,2,3,4,5,6,7] .o))) 36 [0,1,2] (.n (.n (.n .o 37 [0,1,2] .o) 51 [0,1,2] (.n .o 52 [0,1,2] .o)) 69 [0,1,2,3] (.n (.n .o 70 [0,1,2,3] .o) 71 [0,1,2] (.n .o 72 [0,1,2] .o)))) 73 [0,1,2] (.n (.n (.n (.n .o 74 [0,1,2] .o) 76 [0,1,2,3,4,5,6,7] (.n .o 77 [0,1,2,3,4,5,6,7] .o)) 78 [0,1] (.n (.n .o 79 [0,1] .o) 80 [0,1] (.n .o 81 [0,1] .o))) 114 [0,8] (.n (.n (.n .o 115 [0,8] .o) 116 [0,1,2] (.n .o 117 [0,1,2] .o)) 151 [0,1,2,3] (.n (.n .o 152 [0,1,2,3] .o) 164 [0,1,2,3,4,5,6,7,8,9,10] (.n .o 165 [0,1,2,3,4,5,6,7,8,9,10] .o)))))
  kt := (.n (.n (.n (.n (.n (.n (.n (.n .o 1 (false, 1) .o) 2 (false, 1) .o) 3 (false, 1) (.n .o 4 (false, 1) .o)) 5 (false, 1) (.n (.n (.n .o 6 (false, 1) .o) 7 (true, 4) .o) 8 (true, 4) (.n .o 9 (false, 1) .o))) 10 (false, 1) (.n (.n (.n (.n .o 11 (false, 1) .o) 12 (false, 1) .o) 13 (true, 2) (.n .o 14 (true, 2) .o)) 15 (false, 1) (.n (.n (.n .o 16 (false, 1) .o) 17 (false, 1) .o) 18 (true, 1) (.n .o 19 (true, 1) .o)))) 21 (false, 1) (.n (.n (.n (.n (.n .o 22 (false, 1) .o) 23 (false, 1) .o) 24 (false, 1) (.n .o 25 (false, 1) .o)) 26 (false, 1) (.n (.n (.n .o 27 (false, 1) .o) 28 (false, 1) .o) 29 (false, 1) (.n .o 30 (true, 8) .o))) 31 (true, 8) (.n (.n (.n (.n .o 32 (false, 1) .o) 33 (false, 1) .o) 34 (false, 1) (.n .o 35 (false, 1) .o)) 36 (true, 3) (.n (.n (.n .o 37 (true, 3) .o) 38 (false, 1) .o) 40 (false, 1) (.n .o 41 (false, 1) .o))))) 42 (false, 1) (.n (.n (.n (.n (.n (.n .o 43 (false, 1) .o) 44 (false, 1) .o) 45 (false, 1) (.n .o 47 (false, 1) .o)) 48 (false, 1) (.n (.n (.n .o 49 (false, 1) .o) 50 (false, 1) .o) 51 (true, 3) (.n .o 52 (true, 3) .o))) 53 (false, 1) (.n (.n (.n (.n .o 54 (false, 1) .o) 55 (false, 1) .o) 56 (false, 1) (.n .o 58 (false, 1) .o)) 59 (false, 1) (.n (.n (.n .o 60 (false, 1) .o) 62 (false, 1) .o) 63 (false, 1) (.n .o 64 (false, 1) .o)))) 66 (false, 1) (.n (.n (.n (.n (.n .o 67 (false, 1) .o) 68 (false, 1) .o) 69 (true, 4) (.n .o 70 (true, 4) .o)) 71 (true, 3) (.n (.n (.n .o 72 (true, 3) .o) 73 (true, 3) .o) 74 (true, 3) (.n .o 75 (false, 1) .o))) 76 (true, 8) (.n (.n (.n (.n .o 77 (true, 8) .o) 78 (true, 2) .o) 79 (true, 2) (.n .o 80 (true, 3) .o)) 81 (true, 3) (.n (.n (.n .o 82 (false, 1) .o) 83 (false, 1) .o) 84 (false, 1) (.n .o 85 (false, 1) .o)))))) 86 (false, 1) (.n (.n (.n (.n (.n (.n (.n .o 87 (false, 1) .o) 88 (false, 1) .o) 89 (false, 1) (.n .o 90 (false, 1) .o)) 91 (false, 1) (.n (.n (.n .o 92 (false, 1) .o) 93 (false, 1) .o) 94 (false, 1) (.n .o 95 (false, 1) .o))) 96 (false, 1) (.n (.n (.n (.n .o 97 (false, 1) .o) 98 (false, 1) .o) 99 (false, 1) (.n .o 100 (false, 1) .o)) 101 (false, 1) (.n (.n (.n .o 102 (false, 1) .o) 103 (false, 1) .o) 104 (false, 1) (.n .o 105 (false, 1) .o)))) 106 (false, 1) (.n (.n (.n (.n (.n .o 107 (false, 1) .o) 108 (false, 1) .o) 110 (false, 1) (.n .o 111 (false, 1) .o)) 112 (false, 1) (.n (.n (.n .o 113 (false, 1) .o) 114 (true, 11) .o) 115 (true, 11) (.n .o 116 (true, 3) .o))) 117 (true, 3) (.n (.n (.n (.n .o 118 (false, 1) .o) 119 (false, 1) .o) 120 (false, 1) (.n .o 121 (false, 1) .o)) 122 (false, 1) (.n (.n (.n .o 123 (false, 1) .o) 124 (false, 1) .o) 125 (false, 1) (.n .o 126 (false, 1) .o))))) 127 (false, 1) (.n (.n (.n (.n (.n (.n .o 128 (false, 1) .o) 129 (false, 1) .o) 130 (false, 1) (.n .o 131 (false, 1) .o)) 132 (false, 1) (.n (.n (.n .o 133 (false, 1) .o) 134 (false, 1) .o) 135 (false, 1) (.n .o 136 (false, 1) .o))) 137 (false, 1) (.n (.n (.n (.n .o 138 (false, 1) .o) 139 (false, 1) .o) 140 (false, 1) (.n .o 141 (false, 1) .o)) 142 (false, 1) (.n (.n (.n .o 143 (false, 1) .o) 144 (false, 1) .o) 145 (false, 1) (.n .o 146 (false, 1) .o)))) 147 (false, 1) (.n (.n (.n (.n (.n .o 148 (false, 1) .o) 149 (false, 1) .o) 150 (false, 1) (.n .o 151 (true, 4) .o)) 152 (true, 4) (.n (.n (.n .o 153 (true, 0) .o) 154 (true, 0) .o) 155 (true, 0) (.n .o 156 (false, 1) .o))) 157 (false, 1) (.n (.n (.n (.n .o 158 (false, 1) .o) 159 (false, 1) .o) 160 (false, 1) (.n .o 161 (false, 1) .o)) 162 (false, 1) (.n (.n .o 163 (false, 1) .o) 164 (true, 11) (.n .o 165 (true, 11) .o)))))))
  st := (.n (.n (.n (.n .o 22 (9, 1, 16) .o) 23 (70, 4, 40) .o) 24 (72, 3, 48) (.n (.n .o 25 (74, 3, 40) .o) 26 (77, 8, 152) .o)) 27 (81, 3, 40) (.n (.n (.n .o 28 (117, 3, 24) .o) 29 (117, 3, 24) .o) 35 (3, 1, 8) (.n (.n .o 45 (52, 3, 24) .o) 75 (79, 2, 16) .o)))
  fk := by kernel_rfl
  kk := by kernel_rfl
  sk := by kernel_rfl
end Go.Proofs.YtgbofmnbakfalaaDoor
namespace Go.Proofs.YtgbofmnbakfalaaDoor
open Go.Proofs
theorem zv89 : zv Tryd.prog 89 = some [.nilFunc] := by kernel_rfl
end Go.Proofs.YtgbofmnbakfalaaDoor
namespace Go.Proofs.YtgbofmnbakfalaaDoor
open Go.Proofs
theorem zv85 : zv Tryd.prog 85 = some [.pointer none] := by kernel_rfl
end Go.Proofs.YtgbofmnbakfalaaDoor
