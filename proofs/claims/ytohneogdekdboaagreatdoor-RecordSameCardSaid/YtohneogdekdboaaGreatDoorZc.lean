/- Merged texts of this proof (walks and plain laws), printed by a program of the prover. -/
import Derived.Test.YtohneogdekdboaaGreatDoorZb
import Derived.Test.YtohneogdekdboaaGreatDoorProg
import Derived.KernelRfl
namespace Go.Proofs.YtohneogdekdboaaGreatDoor
open Go.Proofs
theorem Jai : Tryz.prog.follows .mixedOrders = true := by kernel_rfl
theorem tk3 : tk Tryz.prog 3 = some (false, 1) := by kernel_rfl
theorem tk4 : tk Tryz.prog 4 = some (false, 1) := by kernel_rfl
theorem tk9 : tk Tryz.prog 9 = some (false, 1) := by kernel_rfl
theorem tk22 : tk Tryz.prog 22 = some (false, 1) := by kernel_rfl
theorem tk29 : tk Tryz.prog 29 = some (false, 1) := by kernel_rfl
theorem tk31 : tk Tryz.prog 31 = some (true, 8) := by kernel_rfl
theorem tk32 : tk Tryz.prog 32 = some (false, 1) := by kernel_rfl
theorem tk33 : tk Tryz.prog 33 = some (false, 1) := by kernel_rfl
theorem tk34 : tk Tryz.prog 34 = some (false, 1) := by kernel_rfl
theorem tk36 : tk Tryz.prog 36 = some (true, 12) := by kernel_rfl
theorem tk56 : tk Tryz.prog 56 = some (false, 1) := by kernel_rfl
theorem tk58 : tk Tryz.prog 58 = some (true, 3) := by kernel_rfl
theorem tk61 : tk Tryz.prog 61 = some (true, 4) := by kernel_rfl
theorem tk71 : tk Tryz.prog 71 = some (true, 3) := by kernel_rfl
theorem tk73 : tk Tryz.prog 73 = some (true, 7) := by kernel_rfl
theorem tk84 : tk Tryz.prog 84 = some (true, 7) := by kernel_rfl
theorem J7j : tk Tryz.prog 129 = some (true, 8) := by kernel_rfl
theorem Kaw : tk Tryz.prog 221 = some (false, 1) := by kernel_rfl
theorem zv3 : zv Tryz.prog 3 = some [.int .i64 0] := by kernel_rfl
theorem zv4 : zv Tryz.prog 4 = some [.bool false] := by kernel_rfl
theorem zv9 : zv Tryz.prog 9 = some [.string ⟨#[]⟩] := by kernel_rfl
theorem zv31 : zv Tryz.prog 31 = some [.slice none 0 0, .slice none 0 0, .slice none 0 0, .slice none 0 0, .slice none 0 0, .slice none 0 0, .int .i64 0, .slice none 0 0] := by kernel_rfl
theorem zv36 : zv Tryz.prog 36 = some [.slice none 0 0, .slice none 0 0, .slice none 0 0, .slice none 0 0, .slice none 0 0, .slice none 0 0, .int .i64 0, .slice none 0 0, .slice none 0 0, .slice none 0 0, .slice none 0 0, .int .i64 0] := by kernel_rfl
theorem zv56 : zv Tryz.prog 56 = some [.slice none 0 0] := by kernel_rfl
theorem zv58 : zv Tryz.prog 58 = some [.slice none 0 0, .slice none 0 0, .slice none 0 0] := by kernel_rfl
theorem zv61 : zv Tryz.prog 61 = some (List.replicate 4 (.slice none 0 0)) := by kernel_rfl
theorem zv71 : zv Tryz.prog 71 = some [.int .i64 0, .int .i64 0, .int .i64 0] := by kernel_rfl
theorem zv73 : zv Tryz.prog 73 = some (List.replicate 7 (.int .i64 0)) := by kernel_rfl
theorem zv77 : zv Tryz.prog 77 = some (List.replicate 4 (.int .i64 0)) := by kernel_rfl
theorem zv82 : zv Tryz.prog 82 = some [.int .i64 0, .int .i64 0] := by kernel_rfl
theorem zv84 : zv Tryz.prog 84 = some [.int .i64 0, .int .i64 0, .int .i64 0, .int .i64 0, .int .i64 0, .slice none 0 0, .bool false] := by kernel_rfl
theorem zv86 : zv Tryz.prog 86 = some [.string ⟨#[]⟩, .int .i64 0, .int .i64 0, .slice none 0 0, .int .i64 0, .int .i64 0, .int .i64 0, .int .i64 0, .int .i64 0, .slice none 0 0, .bool false] := by kernel_rfl
theorem zv94 : zv Tryz.prog 94 = some [.slice none 0 0, .slice none 0 0, .slice none 0 0, .slice none 0 0, .slice none 0 0, .slice none 0 0, .int .i64 0, .slice none 0 0, .slice none 0 0, .slice none 0 0, .slice none 0 0, .int .i64 0, .slice none 0 0, .slice none 0 0, .slice none 0 0, .slice none 0 0, .bool false, .int .i64 0, .int .i64 0, .int .i64 0, .int .i64 0] := by kernel_rfl
theorem Jpc : zv Tryz.prog 122 = some [.string ⟨#[]⟩, .int .i64 0, .int .i64 0, .int .i64 0] := by kernel_rfl
theorem Jk8 : zv Tryz.prog 124 = some [.string ⟨#[]⟩, .int .i64 0, .slice none 0 0] := by kernel_rfl
theorem Jjq : zv Tryz.prog 126 = some [.int .i64 0, .int .i64 0, .slice none 0 0] := by kernel_rfl
theorem Jip : zv Tryz.prog 129 = some [.string ⟨#[]⟩, .int .i64 0, .int .i64 0, .slice none 0 0, .slice none 0 0, .slice none 0 0, .slice none 0 0, .slice none 0 0] := by kernel_rfl
theorem Jps : zv Tryz.prog 131 = some [.int .i64 0, .int .i64 0] := by kernel_rfl
theorem J1f : zv Tryz.prog 133 = some [.slice none 0 0, .int .i64 0, .int .i64 0] := by kernel_rfl
theorem Jlv : zv Tryz.prog 136 = some [.int .i64 0, .int .i64 0, .bool false] := by kernel_rfl
theorem J1v : zv Tryz.prog 156 = some [.slice none 0 0, .slice none 0 0, .slice none 0 0, .slice none 0 0, .slice none 0 0, .slice none 0 0, .int .i64 0, .slice none 0 0, .slice none 0 0, .slice none 0 0, .slice none 0 0, .int .i64 0, .slice none 0 0, .slice none 0 0, .slice none 0 0, .slice none 0 0, .map none] := by kernel_rfl
theorem Kbf : zv Tryz.prog 182 = some [.nilFunc] := by kernel_rfl
theorem Ka0 : zv Tryz.prog 205 = some [.slice none 0 0, .slice none 0 0, .slice none 0 0, .slice none 0 0, .slice none 0 0, .slice none 0 0, .int .i64 0, .slice none 0 0, .slice none 0 0, .slice none 0 0, .slice none 0 0] := by kernel_rfl
theorem J7o : zv Tryz.prog 255 = some (List.replicate 10 (.int .i64 0)) := by kernel_rfl
theorem sl22 : sl Tryz.prog 22 = some (9, 1, 16) := by kernel_rfl
theorem sl23 : sl Tryz.prog 23 = some (122, 4, 40) := by kernel_rfl
theorem sl24 : sl Tryz.prog 24 = some (124, 3, 48) := by kernel_rfl
theorem sl25 : sl Tryz.prog 25 = some (126, 3, 40) := by kernel_rfl
theorem sl26 : sl Tryz.prog 26 = some (129, 8, 152) := by kernel_rfl
theorem sl27 : sl Tryz.prog 27 = some (133, 3, 40) := by kernel_rfl
theorem sl29 : sl Tryz.prog 29 = some (136, 3, 24) := by kernel_rfl
theorem sl32 : sl Tryz.prog 32 = some (82, 2, 16) := by kernel_rfl
theorem sl33 : sl Tryz.prog 33 = some (56, 1, 24) := by kernel_rfl
theorem sl34 : sl Tryz.prog 34 = some (86, 11, 128) := by kernel_rfl
theorem sl37 : sl Tryz.prog 37 = some (77, 4, 32) := by kernel_rfl
theorem sl40 : sl Tryz.prog 40 = some (73, 7, 56) := by kernel_rfl
theorem sl56 : sl Tryz.prog 56 = some (3, 1, 8) := by kernel_rfl
theorem sl59 : sl Tryz.prog 59 = some (4, 1, 1) := by kernel_rfl
theorem sl75 : sl Tryz.prog 75 = some (71, 3, 24) := by kernel_rfl
theorem Jzc : sl Tryz.prog 127 = some (131, 2, 16) := by kernel_rfl
theorem Jjs : sl Tryz.prog 226 = some (84, 7, 72) := by kernel_rfl
theorem Jhf : arr Tryz.prog 255 = some (10, 1) := by kernel_rfl
theorem J69 : plc Tryz.prog 31 = some [(0, 1), (1, 1), (2, 1), (3, 1), (4, 1), (5, 1), (6, 1), (7, 1)] := by kernel_rfl
theorem J77 : plc Tryz.prog 36 = some [(0, 8), (8, 1), (9, 1), (10, 1), (11, 1)] := by kernel_rfl
theorem Jhd : plc Tryz.prog 58 = some [(0, 1), (1, 1), (2, 1)] := by kernel_rfl
theorem Jd1 : plc Tryz.prog 61 = some [(0, 3), (3, 1)] := by kernel_rfl
theorem J1k : plc Tryz.prog 71 = some [(0, 1), (1, 1), (2, 1)] := by kernel_rfl
theorem Jir : plc Tryz.prog 73 = some [(0, 1), (1, 1), (2, 3), (5, 1), (6, 1)] := by kernel_rfl
theorem J01 : plc Tryz.prog 77 = some [(0, 1), (1, 3)] := by kernel_rfl
theorem Kaf : plc Tryz.prog 82 = some [(0, 1), (1, 1)] := by kernel_rfl
theorem J0t : plc Tryz.prog 84 = some [(0, 1), (1, 1), (2, 1), (3, 1), (4, 1), (5, 1), (6, 1)] := by kernel_rfl
theorem J3y : plc Tryz.prog 86 = some [(0, 1), (1, 1), (2, 1), (3, 1), (4, 7)] := by kernel_rfl
theorem Kao : plc Tryz.prog 94 = some [(0, 12), (12, 4), (16, 1), (17, 1), (18, 1), (19, 1), (20, 1)] := by kernel_rfl
theorem J2c : plc Tryz.prog 122 = some [(0, 1), (1, 1), (2, 1), (3, 1)] := by kernel_rfl
theorem J87 : plc Tryz.prog 124 = some [(0, 1), (1, 1), (2, 1)] := by kernel_rfl
theorem J6r : plc Tryz.prog 126 = some [(0, 1), (1, 1), (2, 1)] := by kernel_rfl
theorem J19 : plc Tryz.prog 129 = some [(0, 1), (1, 1), (2, 1), (3, 1), (4, 1), (5, 1), (6, 1), (7, 1)] := by kernel_rfl
theorem J18 : plc Tryz.prog 131 = some [(0, 1), (1, 1)] := by kernel_rfl
theorem Jzu : plc Tryz.prog 136 = some [(0, 1), (1, 1), (2, 1)] := by kernel_rfl
theorem Jsi : plc Tryz.prog 156 = some [(0, 12), (12, 4), (16, 1)] := by kernel_rfl
theorem J8q : plc Tryz.prog 205 = some [(0, 8), (8, 3)] := by kernel_rfl
theorem ent9 : Ent Tryz.prog 9 := Jac Tryz.func9 (by kernel_rfl) rfl
theorem Jft : Ent Tryz.prog 10 := Jac Tryz.func10 (by kernel_rfl) rfl
theorem Jw8 : Ent Tryz.prog 11 := Jac Tryz.func11 (by kernel_rfl) rfl
theorem Jnh : Ent Tryz.prog 12 := Jac Tryz.func12 (by kernel_rfl) rfl
theorem Jhe : Ent Tryz.prog 15 := Jac Tryz.func15 (by kernel_rfl) rfl
theorem Juq : Ent Tryz.prog 29 := Jac Tryz.func29 (by kernel_rfl) rfl
theorem Kah : Ent Tryz.prog 32 := Jac Tryz.func32 (by kernel_rfl) rfl
theorem Kas : Ent Tryz.prog 33 := Jac Tryz.func33 (by kernel_rfl) rfl
theorem Jre : Ent Tryz.prog 34 := Jac Tryz.func34 (by kernel_rfl) rfl
theorem Jnt : Ent Tryz.prog 35 := Jac Tryz.func35 (by kernel_rfl) rfl
theorem Jij : Ent Tryz.prog 36 := Jac Tryz.func36 (by kernel_rfl) rfl
theorem J7f : Ent Tryz.prog 37 := Jac Tryz.func37 (by kernel_rfl) rfl
theorem Ka5 : Ent Tryz.prog 38 := Jac Tryz.func38 (by kernel_rfl) rfl
theorem Kaj : Ent Tryz.prog 39 := Jac Tryz.func39 (by kernel_rfl) rfl
theorem Ju8 : Ent Tryz.prog 41 := Jac Tryz.func41 (by kernel_rfl) rfl
theorem J5t : Ent Tryz.prog 43 := Jac Tryz.func43 (by kernel_rfl) rfl
theorem J6n : Ent Tryz.prog 55 := Jac Tryz.func55 (by kernel_rfl) rfl
theorem Kac : Ent Tryz.prog 56 := Jac Tryz.func56 (by kernel_rfl) rfl
theorem J8b : Ent Tryz.prog 57 := Jac Tryz.func57 (by kernel_rfl) rfl
theorem J88 : Ent Tryz.prog 58 := Jac Tryz.func58 (by kernel_rfl) rfl
theorem J90 : Ent Tryz.prog 59 := Jac Tryz.func59 (by kernel_rfl) rfl
theorem Kaz : Ent Tryz.prog 60 := Jac Tryz.func60 (by kernel_rfl) rfl
theorem J7u : Ent Tryz.prog 61 := Jac Tryz.func61 (by kernel_rfl) rfl
theorem J7c : Ent Tryz.prog 62 := Jac Tryz.func62 (by kernel_rfl) rfl
theorem J9n : Ent Tryz.prog 63 := Jac Tryz.func63 (by kernel_rfl) rfl
theorem Jzz : Ent Tryz.prog 64 := Jac Tryz.func64 (by kernel_rfl) rfl
theorem J5n : Ent Tryz.prog 65 := Jac Tryz.func65 (by kernel_rfl) rfl
theorem Kai : Ent Tryz.prog 66 := Jac Tryz.func66 (by kernel_rfl) rfl
theorem Kau : Ent Tryz.prog 67 := Jac Tryz.func67 (by kernel_rfl) rfl
theorem J6g : Ent Tryz.prog 68 := Jac Tryz.func68 (by kernel_rfl) rfl
theorem Jvd : Ent Tryz.prog 74 := Jac Tryz.func74 (by kernel_rfl) rfl
theorem J39 : Ent Tryz.prog 75 := Jac Tryz.func75 (by kernel_rfl) rfl
theorem J0j : Ent Tryz.prog 76 := Jac Tryz.func76 (by kernel_rfl) rfl
theorem Ka2 : Ent Tryz.prog 77 := Jac Tryz.func77 (by kernel_rfl) rfl
theorem Kak : Ent Tryz.prog 78 := Jac Tryz.func78 (by kernel_rfl) rfl
theorem Juc : Ent Tryz.prog 79 := Jac Tryz.func79 (by kernel_rfl) rfl
theorem J4t : Ent Tryz.prog 80 := Jac Tryz.func80 (by kernel_rfl) rfl
theorem J98 : Ent Tryz.prog 81 := Jac Tryz.func81 (by kernel_rfl) rfl
theorem J9i : Ent Tryz.prog 82 := Jac Tryz.func82 (by kernel_rfl) rfl
theorem J0x : Ent Tryz.prog 83 := Jac Tryz.func83 (by kernel_rfl) rfl
theorem J8x : Ent Tryz.prog 84 := Jac Tryz.func84 (by kernel_rfl) rfl
theorem Kam : Ent Tryz.prog 85 := Jac Tryz.func85 (by kernel_rfl) rfl
theorem Jjm : Ent Tryz.prog 86 := Jac Tryz.func86 (by kernel_rfl) rfl
theorem J30 : Ent Tryz.prog 87 := Jac Tryz.func87 (by kernel_rfl) rfl
theorem Ka7 : Ent Tryz.prog 88 := Jac Tryz.func88 (by kernel_rfl) rfl
theorem J8c : Ent Tryz.prog 89 := Jac Tryz.func89 (by kernel_rfl) rfl
theorem J97 : Ent Tryz.prog 90 := Jac Tryz.func90 (by kernel_rfl) rfl
theorem Ka1 : Ent Tryz.prog 91 := Jac Tryz.func91 (by kernel_rfl) rfl
theorem J7k : Ent Tryz.prog 92 := Jac Tryz.func92 (by kernel_rfl) rfl
theorem Kay : Ent Tryz.prog 93 := Jac Tryz.func93 (by kernel_rfl) rfl
theorem Jvw : Ent Tryz.prog 95 := Jac Tryz.func95 (by kernel_rfl) rfl
theorem J4q : Ent Tryz.prog 96 := Jac Tryz.func96 (by kernel_rfl) rfl
theorem Jrk : Ent Tryz.prog 97 := Jac Tryz.func97 (by kernel_rfl) rfl
theorem Jih : Ent Tryz.prog 98 := Jac Tryz.func98 (by kernel_rfl) rfl
theorem J99 : Ent Tryz.prog 99 := Jac Tryz.func99 (by kernel_rfl) rfl
theorem Jsv : Ent Tryz.prog 100 := Jac Tryz.func100 (by kernel_rfl) rfl
theorem Jfl : Ent Tryz.prog 101 := Jac Tryz.func101 (by kernel_rfl) rfl
theorem J3d : Ent Tryz.prog 102 := Jac Tryz.func102 (by kernel_rfl) rfl
theorem J8t : Ent Tryz.prog 103 := Jac Tryz.func103 (by kernel_rfl) rfl
theorem J82 : Ent Tryz.prog 104 := Jac Tryz.func104 (by kernel_rfl) rfl
theorem J21 : Ent Tryz.prog 105 := Jac Tryz.func105 (by kernel_rfl) rfl
theorem Jma : Ent Tryz.prog 106 := Jac Tryz.func106 (by kernel_rfl) rfl
theorem Jxs : Ent Tryz.prog 107 := Jac Tryz.func107 (by kernel_rfl) rfl
theorem Jtf : Ent Tryz.prog 108 := Jac Tryz.func108 (by kernel_rfl) rfl
theorem J25 : Ent Tryz.prog 109 := Jac Tryz.func109 (by kernel_rfl) rfl
theorem J68 : Ent Tryz.prog 110 := Jac Tryz.func110 (by kernel_rfl) rfl
theorem J7r : Ent Tryz.prog 111 := Jac Tryz.func111 (by kernel_rfl) rfl
theorem Jko : Ent Tryz.prog 112 := Jac Tryz.func112 (by kernel_rfl) rfl
theorem Jph : Ent Tryz.prog 113 := Jac Tryz.func113 (by kernel_rfl) rfl
theorem Jse : Ent Tryz.prog 114 := Jac Tryz.func114 (by kernel_rfl) rfl
theorem J9j : Ent Tryz.prog 115 := Jac Tryz.func115 (by kernel_rfl) rfl
theorem J2e : Ent Tryz.prog 116 := Jac Tryz.func116 (by kernel_rfl) rfl
theorem Jl2 : Ent Tryz.prog 117 := Jac Tryz.func117 (by kernel_rfl) rfl
theorem Js9 : Ent Tryz.prog 118 := Jac Tryz.func118 (by kernel_rfl) rfl
theorem Jky : Ent Tryz.prog 119 := Jac Tryz.func119 (by kernel_rfl) rfl
theorem J27 : Ent Tryz.prog 120 := Jac Tryz.func120 (by kernel_rfl) rfl
theorem J95 : Ent Tryz.prog 121 := Jac Tryz.func121 (by kernel_rfl) rfl
theorem Jst : Ent Tryz.prog 122 := Jac Tryz.func122 (by kernel_rfl) rfl
theorem J8z : Ent Tryz.prog 123 := Jac Tryz.func123 (by kernel_rfl) rfl
theorem J7z : Ent Tryz.prog 124 := Jac Tryz.func124 (by kernel_rfl) rfl
theorem J94 : Ent Tryz.prog 125 := Jac Tryz.func125 (by kernel_rfl) rfl
theorem Jxj : Ent Tryz.prog 126 := Jac Tryz.func126 (by kernel_rfl) rfl
theorem J3e : Ent Tryz.prog 127 := Jac Tryz.func127 (by kernel_rfl) rfl
theorem J2u : Ent Tryz.prog 128 := Jac Tryz.func128 (by kernel_rfl) rfl
theorem Jwr : Ent Tryz.prog 129 := Jac Tryz.func129 (by kernel_rfl) rfl
theorem J6f : Ent Tryz.prog 130 := Jac Tryz.func130 (by kernel_rfl) rfl
theorem Jsn : Ent Tryz.prog 131 := Jac Tryz.func131 (by kernel_rfl) rfl
theorem Jd0 : Ent Tryz.prog 132 := Jac Tryz.func132 (by kernel_rfl) rfl
theorem J8o : Ent Tryz.prog 133 := Jac Tryz.func133 (by kernel_rfl) rfl
theorem J9c : Ent Tryz.prog 134 := Jac Tryz.func134 (by kernel_rfl) rfl
theorem J9b : Ent Tryz.prog 135 := Jac Tryz.func135 (by kernel_rfl) rfl
theorem J7l : Ent Tryz.prog 136 := Jac Tryz.func136 (by kernel_rfl) rfl
theorem J5y : Ent Tryz.prog 137 := Jac Tryz.func137 (by kernel_rfl) rfl
theorem J6v : Ent Tryz.prog 138 := Jac Tryz.func138 (by kernel_rfl) rfl
theorem Jmt : Ent Tryz.prog 139 := Jac Tryz.func139 (by kernel_rfl) rfl
theorem J7d : Ent Tryz.prog 140 := Jac Tryz.func140 (by kernel_rfl) rfl
theorem Jsr : Ent Tryz.prog 141 := Jac Tryz.func141 (by kernel_rfl) rfl
theorem Jhh : Ent Tryz.prog 142 := Jac Tryz.func142 (by kernel_rfl) rfl
theorem J52 : Ent Tryz.prog 143 := Jac Tryz.func143 (by kernel_rfl) rfl
theorem J9x : Ent Tryz.prog 144 := Jac Tryz.func144 (by kernel_rfl) rfl
theorem J7x : Ent Tryz.prog 145 := Jac Tryz.func145 (by kernel_rfl) rfl
theorem J81 : Ent Tryz.prog 146 := Jac Tryz.func146 (by kernel_rfl) rfl
theorem J7v : Ent Tryz.prog 147 := Jac Tryz.func147 (by kernel_rfl) rfl
theorem J71 : Ent Tryz.prog 148 := Jac Tryz.func148 (by kernel_rfl) rfl
theorem Jw2 : Ent Tryz.prog 149 := Jac Tryz.func149 (by kernel_rfl) rfl
theorem J8i : Ent Tryz.prog 150 := Jac Tryz.func150 (by kernel_rfl) rfl
theorem J79 : Ent Tryz.prog 151 := Jac Tryz.func151 (by kernel_rfl) rfl
theorem J7n : Ent Tryz.prog 152 := Jac Tryz.func152 (by kernel_rfl) rfl
theorem J85 : Ent Tryz.prog 153 := Jac Tryz.func153 (by kernel_rfl) rfl
theorem J6d : Ent Tryz.prog 154 := Jac Tryz.func154 (by kernel_rfl) rfl
theorem J6j : Ent Tryz.prog 155 := Jac Tryz.func155 (by kernel_rfl) rfl
theorem J9k : Ent Tryz.prog 156 := Jac Tryz.func156 (by kernel_rfl) rfl
theorem J9l : Ent Tryz.prog 157 := Jac Tryz.func157 (by kernel_rfl) rfl
theorem J51 : Ent Tryz.prog 158 := Jac Tryz.func158 (by kernel_rfl) rfl
theorem J9a : Ent Tryz.prog 159 := Jac Tryz.func159 (by kernel_rfl) rfl
theorem J64 : Ent Tryz.prog 160 := Jac Tryz.func160 (by kernel_rfl) rfl
theorem Jtv : Ent Tryz.prog 161 := Jac Tryz.func161 (by kernel_rfl) rfl
theorem J9q : Ent Tryz.prog 162 := Jac Tryz.func162 (by kernel_rfl) rfl
theorem J62 : Ent Tryz.prog 163 := Jac Tryz.func163 (by kernel_rfl) rfl
theorem J6b : Ent Tryz.prog 164 := Jac Tryz.func164 (by kernel_rfl) rfl
theorem J6x : Ent Tryz.prog 165 := Jac Tryz.func165 (by kernel_rfl) rfl
theorem J7e : Ent Tryz.prog 166 := Jac Tryz.func166 (by kernel_rfl) rfl
theorem J50 : Ent Tryz.prog 167 := Jac Tryz.func167 (by kernel_rfl) rfl
theorem Jyf : Ent Tryz.prog 168 := Jac Tryz.func168 (by kernel_rfl) rfl
theorem J23 : Ent Tryz.prog 169 := Jac Tryz.func169 (by kernel_rfl) rfl
theorem J8v : Ent Tryz.prog 170 := Jac Tryz.func170 (by kernel_rfl) rfl
theorem Jth : Ent Tryz.prog 171 := Jac Tryz.func171 (by kernel_rfl) rfl
theorem J8l : Ent Tryz.prog 172 := Jac Tryz.func172 (by kernel_rfl) rfl
theorem J8f : Ent Tryz.prog 173 := Jac Tryz.func173 (by kernel_rfl) rfl
theorem J9f : Ent Tryz.prog 174 := Jac Tryz.func174 (by kernel_rfl) rfl
theorem J8p : Ent Tryz.prog 175 := Jac Tryz.func175 (by kernel_rfl) rfl
theorem J3a : Ent Tryz.prog 176 := Jac Tryz.func176 (by kernel_rfl) rfl
theorem J66 : Ent Tryz.prog 177 := Jac Tryz.func177 (by kernel_rfl) rfl
theorem J9h : Ent Tryz.prog 178 := Jac Tryz.func178 (by kernel_rfl) rfl
theorem J2w : Ent Tryz.prog 179 := Jac Tryz.func179 (by kernel_rfl) rfl
theorem J6m : Ent Tryz.prog 180 := Jac Tryz.func180 (by kernel_rfl) rfl
theorem J8n : Ent Tryz.prog 181 := Jac Tryz.func181 (by kernel_rfl) rfl
theorem J83 : Ent Tryz.prog 182 := Jac Tryz.func182 (by kernel_rfl) rfl
theorem J96 : Ent Tryz.prog 183 := Jac Tryz.func183 (by kernel_rfl) rfl
theorem J6c : Ent Tryz.prog 184 := Jac Tryz.func184 (by kernel_rfl) rfl
theorem J6z : Ent Tryz.prog 185 := Jac Tryz.func185 (by kernel_rfl) rfl
theorem Jop : Ent Tryz.prog 186 := Jac Tryz.func186 (by kernel_rfl) rfl
theorem Jow : Ent Tryz.prog 187 := Jac Tryz.func187 (by kernel_rfl) rfl
theorem Jxa : Ent Tryz.prog 188 := Jac Tryz.func188 (by kernel_rfl) rfl
theorem J9r : Ent Tryz.prog 189 := Jac Tryz.func189 (by kernel_rfl) rfl
theorem J2d : Ent Tryz.prog 190 := Jac Tryz.func190 (by kernel_rfl) rfl
theorem J3c : Ent Tryz.prog 191 := Jac Tryz.func191 (by kernel_rfl) rfl
theorem J9t : Ent Tryz.prog 192 := Jac Tryz.func192 (by kernel_rfl) rfl
theorem J9u : Ent Tryz.prog 193 := Jac Tryz.func193 (by kernel_rfl) rfl
theorem J6t : Ent Tryz.prog 194 := Jac Tryz.func194 (by kernel_rfl) rfl
theorem J7g : Ent Tryz.prog 195 := Jac Tryz.func195 (by kernel_rfl) rfl
theorem J7q : Ent Tryz.prog 196 := Jac Tryz.func196 (by kernel_rfl) rfl
theorem J76 : Ent Tryz.prog 197 := Jac Tryz.func197 (by kernel_rfl) rfl
theorem J78 : Ent Tryz.prog 198 := Jac Tryz.func198 (by kernel_rfl) rfl
theorem J6q : Ent Tryz.prog 199 := Jac Tryz.func199 (by kernel_rfl) rfl
theorem J6u : Ent Tryz.prog 200 := Jac Tryz.func200 (by kernel_rfl) rfl
theorem J8u : Ent Tryz.prog 201 := Jac Tryz.func201 (by kernel_rfl) rfl
theorem J91 : Ent Tryz.prog 202 := Jac Tryz.func202 (by kernel_rfl) rfl
theorem J2p : Ent Tryz.prog 203 := Jac Tryz.func203 (by kernel_rfl) rfl
theorem J58 : Ent Tryz.prog 204 := Jac Tryz.func204 (by kernel_rfl) rfl
theorem J7w : Ent Tryz.prog 205 := Jac Tryz.func205 (by kernel_rfl) rfl
theorem J7t : Ent Tryz.prog 206 := Jac Tryz.func206 (by kernel_rfl) rfl
theorem Jw7 : Ent Tryz.prog 207 := Jac Tryz.func207 (by kernel_rfl) rfl
theorem J2l : Ent Tryz.prog 208 := Jac Tryz.func208 (by kernel_rfl) rfl
theorem J8g : Ent Tryz.prog 209 := Jac Tryz.func209 (by kernel_rfl) rfl
theorem J9s : Ent Tryz.prog 210 := Jac Tryz.func210 (by kernel_rfl) rfl
theorem J8a : Ent Tryz.prog 211 := Jac Tryz.func211 (by kernel_rfl) rfl
theorem J89 : Ent Tryz.prog 212 := Jac Tryz.func212 (by kernel_rfl) rfl
theorem J9w : Ent Tryz.prog 213 := Jac Tryz.func213 (by kernel_rfl) rfl
theorem J6s : Ent Tryz.prog 214 := Jac Tryz.func214 (by kernel_rfl) rfl
theorem J8h : Ent Tryz.prog 215 := Jac Tryz.func215 (by kernel_rfl) rfl
theorem J9d : Ent Tryz.prog 216 := Jac Tryz.func216 (by kernel_rfl) rfl
theorem Jjh : Ent Tryz.prog 217 := Jac Tryz.func217 (by kernel_rfl) rfl
theorem J92 : Ent Tryz.prog 218 := Jac Tryz.func218 (by kernel_rfl) rfl
theorem J60 : Ent Tryz.prog 219 := Jac Tryz.func219 (by kernel_rfl) rfl
theorem J5w : Ent Tryz.prog 220 := Jac Tryz.func220 (by kernel_rfl) rfl
theorem J53 : Ent Tryz.prog 221 := Jac Tryz.func221 (by kernel_rfl) rfl
theorem J93 : Ent Tryz.prog 222 := Jac Tryz.func222 (by kernel_rfl) rfl
theorem J6o : Ent Tryz.prog 223 := Jac Tryz.func223 (by kernel_rfl) rfl
theorem J2v : Ent Tryz.prog 224 := Jac Tryz.func224 (by kernel_rfl) rfl
theorem J74 : Ent Tryz.prog 225 := Jac Tryz.func225 (by kernel_rfl) rfl
theorem J7b : Ent Tryz.prog 226 := Jac Tryz.func226 (by kernel_rfl) rfl
theorem J7i : Ent Tryz.prog 227 := Jac Tryz.func227 (by kernel_rfl) rfl
theorem J6w : Ent Tryz.prog 228 := Jac Tryz.func228 (by kernel_rfl) rfl
theorem J70 : Ent Tryz.prog 229 := Jac Tryz.func229 (by kernel_rfl) rfl
theorem J9v : Ent Tryz.prog 230 := Jac Tryz.func230 (by kernel_rfl) rfl
instance : Fx Tryz.prog where
 ft := (.n (.n (.n (.n (.n (.n .o 7 [0,1,2,3] .o) 8 [0,1,2,3] (.n .o 13 [0,1] .o)) 14 [0,1] (.n (.n .o 18 [0] .o) 19 [0] .o)) 30 [0,1,2,3,4,5,6,7] (.n (.n (.n .o 31 [0,1,2,3,4,5,6,7] .o) 35 [0,8,9,10,11] (.n .o 36 [0,8,9,10,11] .o)) 57 [0,1,2] (.n (.n .o 58 [0,1,2] .o) 60 [0,3] .o))) 61 [0,3] (.n (.n (.n (.n .o 70 [0,1,2] .o) 71 [0,1,2] (.n .o 72 [0,1,2,5,6] .o)) 73 [0,1,2,5,6] (.n (.n .o 76 [0,1] .o) 77 [0,1] .o)) 81 [0,1] (.n (.n (.n .o 82 [0,1] .o) 83 [0,1,2,3,4,5,6] .o) 84 [0,1,2,3,4,5,6] (.n (.n .o 85 [0,1,2,3,4] .o) 86 [0,1,2,3,4] .o)))) 93 [0,12,16,17,18,19,20] (.n (.n (.n (.n (.n .o 94 [0,12,16,17,18,19,20] .o) 110 [0,12,16,17] (.n .o 111 [0,12,16,17] .o)) 121 [0,1,2,3] (.n (.n .o 122 [0,1,2,3] .o) 123 [0,1,2] .o)) 124 [0,1,2] (.n (.n (.n .o 125 [0,1,2] .o) 126 [0,1,2] (.n .o 128 [0,1,2,3,4,5,6,7] .o)) 129 [0,1,2,3,4,5,6,7] (.n (.n .o 130 [0,1] .o) 131 [0,1] .o))) 132 [0,1] (.n (.n (.n (.n .o 133 [0,1] .o) 135 [0,1,2] (.n .o 136 [0,1,2] .o)) 155 [0,12,16] (.n (.n .o 156 [0,12,16] .o) 204 [0,8] .o)) 205 [0,8] (.n (.n (.n .o 220 [0,1] .o) 260 [0,1,2,3] .o) 261 [0,1,2,3] (.n (.n .o 273 [0,1,2,3,4,5,6,7,8,9,10] .o) 274 [0,1,2,3,4,5,6,7,8,9,10] .o)))))
 kt := (.n (.n (.n (.n (.n (.n (.n (.n (.n .o 1 (false, 1) .o) 2 (false, 1) .o) 3 (false, 1) (.n .o 4 (false, 1) .o)) 5 (false, 1) (.n (.n .o 6 (false, 1) .o) 7 (true, 4) (.n .o 8 (true, 4) .o))) 9 (false, 1) (.n (.n (.n .o 10 (false, 1) .o) 11 (false, 1) (.n .o 12 (false, 1) .o)) 13 (true, 2) (.n (.n .o 14 (true, 2) .o) 15 (false, 1) (.n .o 16 (false, 1) .o)))) 17 (false, 1) (.n (.n (.n (.n .o 18 (true, 1) .o) 19 (true, 1) (.n .o 21 (false, 1) .o)) 22 (false, 1) (.n (.n .o 23 (false, 1) .o) 24 (false, 1) (.n .o 25 (false, 1) .o))) 26 (false, 1) (.n (.n (.n .o 27 (false, 1) .o) 28 (false, 1) (.n .o 29 (false, 1) .o)) 30 (true, 8) (.n (.n .o 31 (true, 8) .o) 32 (false, 1) (.n .o 33 (false, 1) .o))))) 34 (false, 1) (.n (.n (.n (.n (.n .o 35 (true, 12) .o) 36 (true, 12) (.n .o 37 (false, 1) .o)) 38 (false, 1) (.n (.n .o 39 (false, 1) .o) 40 (false, 1) (.n .o 41 (false, 1) .o))) 43 (false, 1) (.n (.n (.n .o 44 (false, 1) .o) 45 (false, 1) (.n .o 46 (false, 1) .o)) 47 (false, 1) (.n (.n .o 49 (false, 1) .o) 50 (false, 1) (.n .o 51 (false, 1) .o)))) 53 (false, 1) (.n (.n (.n (.n .o 54 (false, 1) .o) 55 (false, 1) (.n .o 56 (false, 1) .o)) 57 (true, 3) (.n (.n .o 58 (true, 3) .o) 59 (false, 1) (.n .o 60 (true, 4) .o))) 61 (true, 4) (.n (.n (.n .o 63 (false, 1) .o) 65 (false, 1) (.n .o 66 (false, 1) .o)) 67 (false, 1) (.n (.n .o 69 (false, 1) .o) 70 (true, 3) (.n .o 71 (true, 3) .o)))))) 72 (true, 7) (.n (.n (.n (.n (.n (.n .o 73 (true, 7) .o) 74 (false, 1) (.n .o 75 (false, 1) .o)) 76 (true, 4) (.n (.n .o 77 (true, 4) .o) 79 (false, 1) (.n .o 80 (false, 1) .o))) 81 (true, 2) (.n (.n (.n .o 82 (true, 2) .o) 83 (true, 7) (.n .o 84 (true, 7) .o)) 85 (true, 11) (.n (.n .o 86 (true, 11) .o) 87 (false, 1) (.n .o 88 (false, 1) .o)))) 90 (false, 1) (.n (.n (.n (.n .o 91 (false, 1) .o) 92 (false, 1) (.n .o 93 (true, 21) .o)) 94 (true, 21) (.n (.n .o 95 (false, 1) .o) 96 (false, 1) (.n .o 97 (false, 1) .o))) 98 (false, 1) (.n (.n (.n .o 99 (false, 1) .o) 100 (false, 1) (.n .o 101 (false, 1) .o)) 103 (false, 1) (.n (.n .o 104 (false, 1) .o) 105 (false, 1) (.n .o 106 (false, 1) .o))))) 107 (false, 1) (.n (.n (.n (.n (.n .o 108 (false, 1) .o) 109 (false, 1) (.n .o 110 (true, 18) .o)) 111 (true, 18) (.n (.n .o 113 (false, 1) .o) 114 (false, 1) (.n .o 115 (false, 1) .o))) 117 (false, 1) (.n (.n (.n .o 118 (false, 1) .o) 119 (false, 1) (.n .o 120 (false, 1) .o)) 121 (true, 4) (.n (.n .o 122 (true, 4) .o) 123 (true, 3) (.n .o 124 (true, 3) .o)))) 125 (true, 3) (.n (.n (.n (.n .o 126 (true, 3) .o) 127 (false, 1) (.n .o 128 (true, 8) .o)) 129 (true, 8) (.n (.n .o 130 (true, 2) .o) 131 (true, 2) (.n .o 132 (true, 3) .o))) 133 (true, 3) (.n (.n (.n .o 134 (false, 1) .o) 135 (true, 3) (.n .o 136 (true, 3) .o)) 137 (false, 1) (.n (.n .o 139 (false, 1) .o) 140 (false, 1) (.n .o 141 (false, 1) .o))))))) 142 (false, 1) (.n (.n (.n (.n (.n (.n (.n (.n .o 143 (false, 1) .o) 144 (false, 1) .o) 145 (false, 1) (.n .o 146 (false, 1) .o)) 147 (false, 1) (.n (.n .o 148 (false, 1) .o) 149 (false, 1) (.n .o 150 (false, 1) .o))) 151 (false, 1) (.n (.n (.n .o 152 (false, 1) .o) 153 (false, 1) (.n .o 154 (false, 1) .o)) 155 (true, 17) (.n (.n .o 156 (true, 17) .o) 157 (false, 1) (.n .o 158 (false, 1) .o)))) 160 (false, 1) (.n (.n (.n (.n .o 161 (false, 1) .o) 163 (false, 1) (.n .o 164 (false, 1) .o)) 165 (false, 1) (.n (.n .o 166 (false, 1) .o) 167 (false, 1) (.n .o 168 (false, 1) .o))) 169 (false, 1) (.n (.n (.n .o 170 (false, 1) .o) 171 (false, 1) (.n .o 172 (false, 1) .o)) 173 (false, 1) (.n (.n .o 174 (false, 1) .o) 175 (false, 1) (.n .o 176 (false, 1) .o))))) 177 (false, 1) (.n (.n (.n (.n (.n .o 178 (false, 1) .o) 179 (false, 1) (.n .o 180 (false, 1) .o)) 181 (false, 1) (.n (.n .o 182 (false, 1) .o) 183 (false, 1) (.n .o 184 (false, 1) .o))) 185 (false, 1) (.n (.n (.n .o 186 (false, 1) .o) 187 (false, 1) (.n .o 188 (false, 1) .o)) 190 (false, 1) (.n (.n .o 191 (false, 1) .o) 192 (false, 1) (.n .o 193 (false, 1) .o)))) 194 (false, 1) (.n (.n (.n (.n .o 195 (false, 1) .o) 196 (false, 1) (.n .o 197 (false, 1) .o)) 198 (false, 1) (.n (.n .o 199 (false, 1) .o) 200 (false, 1) (.n .o 201 (false, 1) .o))) 202 (false, 1) (.n (.n (.n .o 203 (false, 1) .o) 204 (true, 11) (.n .o 205 (true, 11) .o)) 206 (false, 1) (.n (.n .o 207 (false, 1) .o) 208 (false, 1) (.n .o 209 (false, 1) .o)))))) 210 (false, 1) (.n (.n (.n (.n (.n (.n .o 211 (false, 1) .o) 212 (false, 1) (.n .o 213 (false, 1) .o)) 214 (false, 1) (.n (.n .o 215 (false, 1) .o) 216 (false, 1) (.n .o 217 (false, 1) .o))) 218 (false, 1) (.n (.n (.n .o 219 (false, 1) .o) 220 (true, 2) (.n .o 221 (false, 1) .o)) 222 (false, 1) (.n (.n .o 223 (false, 1) .o) 224 (false, 1) (.n .o 225 (false, 1) .o)))) 226 (false, 1) (.n (.n (.n (.n .o 228 (false, 1) .o) 229 (false, 1) (.n .o 230 (false, 1) .o)) 231 (false, 1) (.n (.n .o 232 (false, 1) .o) 233 (false, 1) (.n .o 234 (false, 1) .o))) 235 (false, 1) (.n (.n (.n .o 236 (false, 1) .o) 237 (false, 1) (.n .o 238 (false, 1) .o)) 239 (false, 1) (.n (.n .o 240 (false, 1) .o) 241 (false, 1) (.n .o 242 (false, 1) .o))))) 243 (false, 1) (.n (.n (.n (.n (.n .o 244 (false, 1) .o) 245 (false, 1) (.n .o 246 (false, 1) .o)) 247 (false, 1) (.n (.n .o 248 (false, 1) .o) 249 (false, 1) (.n .o 250 (false, 1) .o))) 251 (false, 1) (.n (.n (.n .o 252 (false, 1) .o) 253 (false, 1) (.n .o 254 (false, 1) .o)) 255 (true, 10) (.n (.n .o 256 (false, 1) .o) 257 (false, 1) (.n .o 258 (false, 1) .o)))) 259 (false, 1) (.n (.n (.n (.n .o 260 (true, 4) .o) 261 (true, 4) (.n .o 262 (true, 0) .o)) 263 (true, 0) (.n (.n .o 264 (true, 0) .o) 265 (false, 1) (.n .o 266 (false, 1) .o))) 267 (false, 1) (.n (.n (.n .o 268 (false, 1) .o) 269 (false, 1) (.n .o 270 (false, 1) .o)) 271 (false, 1) (.n (.n .o 272 (false, 1) .o) 273 (true, 11) (.n .o 274 (true, 11) .o))))))))
 st := (.n (.n (.n (.n (.n .o 22 (9, 1, 16) .o) 23 (122, 4, 40) .o) 24 (124, 3, 48) (.n .o 25 (126, 3, 40) .o)) 26 (129, 8, 152) (.n (.n (.n .o 27 (133, 3, 40) .o) 28 (136, 3, 24) .o) 29 (136, 3, 24) (.n .o 32 (82, 2, 16) .o))) 33 (56, 1, 24) (.n (.n (.n (.n .o 34 (86, 11, 128) .o) 37 (77, 4, 32) .o) 40 (73, 7, 56) (.n .o 56 (3, 1, 8) .o)) 59 (4, 1, 1) (.n (.n .o 75 (71, 3, 24) .o) 127 (131, 2, 16) (.n .o 226 (84, 7, 72) .o))))
 fk := by kernel_rfl
 kk := by kernel_rfl
 sk := by kernel_rfl
end Go.Proofs.YtohneogdekdboaaGreatDoor
