/- Merged texts of this proof (walks and plain laws), printed by a program of the prover. -/
import Derived.Test.YtaeagngfhceceaaGreatDoorZb
import Derived.Test.YtaeagngfhceceaaGreatDoorProg
import Derived.KernelRfl
namespace Go.Proofs.YtaeagngfhceceaaGreatDoor
open Go.Proofs
theorem mixed : Tryz.prog.follows .mixedOrders = true := by kernel_rfl
theorem tk3 : tk Tryz.prog 3 = some (false, 1) := by kernel_rfl
theorem tk4 : tk Tryz.prog 4 = some (false, 1) := by kernel_rfl
theorem tk9 : tk Tryz.prog 9 = some (false, 1) := by kernel_rfl
theorem tk22 : tk Tryz.prog 22 = some (false, 1) := by kernel_rfl
theorem tk29 : tk Tryz.prog 29 = some (false, 1) := by kernel_rfl
theorem tk31 : tk Tryz.prog 31 = some (true, 8) := by kernel_rfl
theorem tk32 : tk Tryz.prog 32 = some (false, 1) := by kernel_rfl
theorem tk33 : tk Tryz.prog 33 = some (false, 1) := by kernel_rfl
theorem tk34 : tk Tryz.prog 34 = some (false, 1) := by kernel_rfl
theorem tk36 : tk Tryz.prog 36 = some (true, 12) := by kernel_rfl
theorem tk42 : tk Tryz.prog 42 = some (false, 1) := by kernel_rfl
theorem tk46 : tk Tryz.prog 46 = some (false, 1) := by kernel_rfl
theorem tk48 : tk Tryz.prog 48 = some (true, 7) := by kernel_rfl
theorem tk54 : tk Tryz.prog 54 = some (true, 2) := by kernel_rfl
theorem tk66 : tk Tryz.prog 66 = some (false, 1) := by kernel_rfl
theorem tk104 : tk Tryz.prog 104 = some (true, 8) := by kernel_rfl
theorem tk119 : tk Tryz.prog 119 = some (false, 1) := by kernel_rfl
theorem tk120 : tk Tryz.prog 120 = some (false, 1) := by kernel_rfl
theorem tk182 : tk Tryz.prog 182 = some (false, 1) := by kernel_rfl
theorem zv3 : zv Tryz.prog 3 = some [.int .i64 0] := by kernel_rfl
theorem zv4 : zv Tryz.prog 4 = some [.bool false] := by kernel_rfl
theorem zv9 : zv Tryz.prog 9 = some [.string ⟨#[]⟩] := by kernel_rfl
theorem zv31 : zv Tryz.prog 31 = some [.slice none 0 0, .slice none 0 0, .slice none 0 0, .slice none 0 0, .slice none 0 0, .slice none 0 0, .int .i64 0, .slice none 0 0] := by kernel_rfl
theorem zv33 : zv Tryz.prog 33 = some [.slice none 0 0] := by kernel_rfl
theorem zv36 : zv Tryz.prog 36 = some [.slice none 0 0, .slice none 0 0, .slice none 0 0, .slice none 0 0, .slice none 0 0, .slice none 0 0, .int .i64 0, .slice none 0 0, .slice none 0 0, .slice none 0 0, .slice none 0 0, .int .i64 0] := by kernel_rfl
theorem zv42 : zv Tryz.prog 42 = some [.slice none 0 0] := by kernel_rfl
theorem zv48 : zv Tryz.prog 48 = some [.int .i64 0, .int .i64 0, .int .i64 0, .int .i64 0, .int .i64 0, .slice none 0 0, .bool false] := by kernel_rfl
theorem zv50 : zv Tryz.prog 50 = some [.string ⟨#[]⟩, .int .i64 0, .int .i64 0, .slice none 0 0, .int .i64 0, .int .i64 0, .int .i64 0, .int .i64 0, .int .i64 0, .slice none 0 0, .bool false] := by kernel_rfl
theorem zv54 : zv Tryz.prog 54 = some [.int .i64 0, .int .i64 0] := by kernel_rfl
theorem zv66 : zv Tryz.prog 66 = some [.slice none 0 0] := by kernel_rfl
theorem zv104 : zv Tryz.prog 104 = some [.string ⟨#[]⟩, .int .i64 0, .int .i64 0, .slice none 0 0, .slice none 0 0, .slice none 0 0, .slice none 0 0, .slice none 0 0] := by kernel_rfl
theorem zv111 : zv Tryz.prog 111 = some [.nilFunc] := by kernel_rfl
theorem zv119 : zv Tryz.prog 119 = some [.pointer none] := by kernel_rfl
theorem zv122 : zv Tryz.prog 122 = some [.slice none 0 0, .int .i64 0] := by kernel_rfl
theorem zv157 : zv Tryz.prog 157 = some [.string ⟨#[]⟩, .int .i64 0, .int .i64 0, .int .i64 0] := by kernel_rfl
theorem zv159 : zv Tryz.prog 159 = some [.string ⟨#[]⟩, .int .i64 0, .slice none 0 0] := by kernel_rfl
theorem zv162 : zv Tryz.prog 162 = some [.int .i64 0, .int .i64 0, .slice none 0 0] := by kernel_rfl
theorem zv164 : zv Tryz.prog 164 = some [.int .i64 0, .int .i64 0] := by kernel_rfl
theorem zv166 : zv Tryz.prog 166 = some [.slice none 0 0, .int .i64 0, .int .i64 0] := by kernel_rfl
theorem zv175 : zv Tryz.prog 175 = some [.int .i64 0, .int .i64 0, .bool false] := by kernel_rfl
theorem zv241 : zv Tryz.prog 241 = some (List.replicate 10 (.int .i64 0)) := by kernel_rfl
theorem sl22 : sl Tryz.prog 22 = some (9, 1, 16) := by kernel_rfl
theorem sl23 : sl Tryz.prog 23 = some (157, 4, 40) := by kernel_rfl
theorem sl24 : sl Tryz.prog 24 = some (159, 3, 48) := by kernel_rfl
theorem sl25 : sl Tryz.prog 25 = some (162, 3, 40) := by kernel_rfl
theorem sl26 : sl Tryz.prog 26 = some (104, 8, 152) := by kernel_rfl
theorem sl27 : sl Tryz.prog 27 = some (166, 3, 40) := by kernel_rfl
theorem sl29 : sl Tryz.prog 29 = some (175, 3, 24) := by kernel_rfl
theorem sl32 : sl Tryz.prog 32 = some (54, 2, 16) := by kernel_rfl
theorem sl33 : sl Tryz.prog 33 = some (42, 1, 24) := by kernel_rfl
theorem sl34 : sl Tryz.prog 34 = some (50, 11, 128) := by kernel_rfl
theorem sl42 : sl Tryz.prog 42 = some (3, 1, 8) := by kernel_rfl
theorem sl46 : sl Tryz.prog 46 = some (48, 7, 72) := by kernel_rfl
theorem sl66 : sl Tryz.prog 66 = some (4, 1, 1) := by kernel_rfl
theorem sl102 : sl Tryz.prog 102 = some (164, 2, 16) := by kernel_rfl
theorem sl120 : sl Tryz.prog 120 = some (66, 1, 24) := by kernel_rfl
theorem arr241 : arr Tryz.prog 241 = some (10, 1) := by kernel_rfl
theorem plc31 : plc Tryz.prog 31 = some [(0, 1), (1, 1), (2, 1), (3, 1), (4, 1), (5, 1), (6, 1), (7, 1)] := by kernel_rfl
theorem plc36 : plc Tryz.prog 36 = some [(0, 8), (8, 1), (9, 1), (10, 1), (11, 1)] := by kernel_rfl
theorem plc48 : plc Tryz.prog 48 = some [(0, 1), (1, 1), (2, 1), (3, 1), (4, 1), (5, 1), (6, 1)] := by kernel_rfl
theorem plc54 : plc Tryz.prog 54 = some [(0, 1), (1, 1)] := by kernel_rfl
theorem plc122 : plc Tryz.prog 122 = some [(0, 1), (1, 1)] := by kernel_rfl
theorem ent14 : Ent Tryz.prog 14 := ent_of Tryz.func14 (by kernel_rfl) rfl
theorem ent15 : Ent Tryz.prog 15 := ent_of Tryz.func15 (by kernel_rfl) rfl
theorem ent16 : Ent Tryz.prog 16 := ent_of Tryz.func16 (by kernel_rfl) rfl
theorem ent17 : Ent Tryz.prog 17 := ent_of Tryz.func17 (by kernel_rfl) rfl
theorem ent18 : Ent Tryz.prog 18 := ent_of Tryz.func18 (by kernel_rfl) rfl
theorem ent19 : Ent Tryz.prog 19 := ent_of Tryz.func19 (by kernel_rfl) rfl
theorem ent20 : Ent Tryz.prog 20 := ent_of Tryz.func20 (by kernel_rfl) rfl
theorem ent21 : Ent Tryz.prog 21 := ent_of Tryz.func21 (by kernel_rfl) rfl
theorem ent22 : Ent Tryz.prog 22 := ent_of Tryz.func22 (by kernel_rfl) rfl
theorem ent23 : Ent Tryz.prog 23 := ent_of Tryz.func23 (by kernel_rfl) rfl
theorem ent24 : Ent Tryz.prog 24 := ent_of Tryz.func24 (by kernel_rfl) rfl
theorem ent25 : Ent Tryz.prog 25 := ent_of Tryz.func25 (by kernel_rfl) rfl
theorem ent46 : Ent Tryz.prog 46 := ent_of Tryz.func46 (by kernel_rfl) rfl
theorem ent55 : Ent Tryz.prog 55 := ent_of Tryz.func55 (by kernel_rfl) rfl
theorem ent56 : Ent Tryz.prog 56 := ent_of Tryz.func56 (by kernel_rfl) rfl
theorem ent57 : Ent Tryz.prog 57 := ent_of Tryz.func57 (by kernel_rfl) rfl
theorem ent58 : Ent Tryz.prog 58 := ent_of Tryz.func58 (by kernel_rfl) rfl
theorem ent59 : Ent Tryz.prog 59 := ent_of Tryz.func59 (by kernel_rfl) rfl
theorem ent60 : Ent Tryz.prog 60 := ent_of Tryz.func60 (by kernel_rfl) rfl
theorem ent61 : Ent Tryz.prog 61 := ent_of Tryz.func61 (by kernel_rfl) rfl
theorem ent62 : Ent Tryz.prog 62 := ent_of Tryz.func62 (by kernel_rfl) rfl
theorem ent63 : Ent Tryz.prog 63 := ent_of Tryz.func63 (by kernel_rfl) rfl
theorem ent64 : Ent Tryz.prog 64 := ent_of Tryz.func64 (by kernel_rfl) rfl
theorem ent65 : Ent Tryz.prog 65 := ent_of Tryz.func65 (by kernel_rfl) rfl
theorem ent66 : Ent Tryz.prog 66 := ent_of Tryz.func66 (by kernel_rfl) rfl
theorem ent67 : Ent Tryz.prog 67 := ent_of Tryz.func67 (by kernel_rfl) rfl
theorem ent68 : Ent Tryz.prog 68 := ent_of Tryz.func68 (by kernel_rfl) rfl
theorem ent69 : Ent Tryz.prog 69 := ent_of Tryz.func69 (by kernel_rfl) rfl
theorem ent70 : Ent Tryz.prog 70 := ent_of Tryz.func70 (by kernel_rfl) rfl
theorem ent71 : Ent Tryz.prog 71 := ent_of Tryz.func71 (by kernel_rfl) rfl
theorem ent72 : Ent Tryz.prog 72 := ent_of Tryz.func72 (by kernel_rfl) rfl
theorem ent73 : Ent Tryz.prog 73 := ent_of Tryz.func73 (by kernel_rfl) rfl
theorem ent74 : Ent Tryz.prog 74 := ent_of Tryz.func74 (by kernel_rfl) rfl
theorem ent75 : Ent Tryz.prog 75 := ent_of Tryz.func75 (by kernel_rfl) rfl
theorem ent76 : Ent Tryz.prog 76 := ent_of Tryz.func76 (by kernel_rfl) rfl
theorem ent77 : Ent Tryz.prog 77 := ent_of Tryz.func77 (by kernel_rfl) rfl
theorem ent78 : Ent Tryz.prog 78 := ent_of Tryz.func78 (by kernel_rfl) rfl
theorem ent79 : Ent Tryz.prog 79 := ent_of Tryz.func79 (by kernel_rfl) rfl
theorem ent102 : Ent Tryz.prog 102 := ent_of Tryz.func102 (by kernel_rfl) rfl
theorem ent103 : Ent Tryz.prog 103 := ent_of Tryz.func103 (by kernel_rfl) rfl
theorem ent104 : Ent Tryz.prog 104 := ent_of Tryz.func104 (by kernel_rfl) rfl
theorem ent105 : Ent Tryz.prog 105 := ent_of Tryz.func105 (by kernel_rfl) rfl
theorem ent111 : Ent Tryz.prog 111 := ent_of Tryz.func111 (by kernel_rfl) rfl
theorem ent112 : Ent Tryz.prog 112 := ent_of Tryz.func112 (by kernel_rfl) rfl
theorem ent113 : Ent Tryz.prog 113 := ent_of Tryz.func113 (by kernel_rfl) rfl
theorem ent114 : Ent Tryz.prog 114 := ent_of Tryz.func114 (by kernel_rfl) rfl
theorem ent115 : Ent Tryz.prog 115 := ent_of Tryz.func115 (by kernel_rfl) rfl
theorem ent116 : Ent Tryz.prog 116 := ent_of Tryz.func116 (by kernel_rfl) rfl
theorem ent117 : Ent Tryz.prog 117 := ent_of Tryz.func117 (by kernel_rfl) rfl
theorem ent118 : Ent Tryz.prog 118 := ent_of Tryz.func118 (by kernel_rfl) rfl
theorem ent119 : Ent Tryz.prog 119 := ent_of Tryz.func119 (by kernel_rfl) rfl
theorem ent120 : Ent Tryz.prog 120 := ent_of Tryz.func120 (by kernel_rfl) rfl
theorem ent121 : Ent Tryz.prog 121 := ent_of Tryz.func121 (by kernel_rfl) rfl
theorem ent122 : Ent Tryz.prog 122 := ent_of Tryz.func122 (by kernel_rfl) rfl
theorem ent123 : Ent Tryz.prog 123 := ent_of Tryz.func123 (by kernel_rfl) rfl
theorem ent124 : Ent Tryz.prog 124 := ent_of Tryz.func124 (by kernel_rfl) rfl
theorem ent125 : Ent Tryz.prog 125 := ent_of Tryz.func125 (by kernel_rfl) rfl
theorem ent126 : Ent Tryz.prog 126 := ent_of Tryz.func126 (by kernel_rfl) rfl
theorem ent127 : Ent Tryz.prog 127 := ent_of Tryz.func127 (by kernel_rfl) rfl
theorem ent128 : Ent Tryz.prog 128 := ent_of Tryz.func128 (by kernel_rfl) rfl
theorem ent129 : Ent Tryz.prog 129 := ent_of Tryz.func129 (by kernel_rfl) rfl
theorem ent130 : Ent Tryz.prog 130 := ent_of Tryz.func130 (by kernel_rfl) rfl
theorem ent131 : Ent Tryz.prog 131 := ent_of Tryz.func131 (by kernel_rfl) rfl
theorem ent132 : Ent Tryz.prog 132 := ent_of Tryz.func132 (by kernel_rfl) rfl
theorem ent133 : Ent Tryz.prog 133 := ent_of Tryz.func133 (by kernel_rfl) rfl
theorem ent134 : Ent Tryz.prog 134 := ent_of Tryz.func134 (by kernel_rfl) rfl
theorem ent135 : Ent Tryz.prog 135 := ent_of Tryz.func135 (by kernel_rfl) rfl
theorem ent151 : Ent Tryz.prog 151 := ent_of Tryz.func151 (by kernel_rfl) rfl
theorem ent153 : Ent Tryz.prog 153 := ent_of Tryz.func153 (by kernel_rfl) rfl
theorem ent154 : Ent Tryz.prog 154 := ent_of Tryz.func154 (by kernel_rfl) rfl
theorem ent155 : Ent Tryz.prog 155 := ent_of Tryz.func155 (by kernel_rfl) rfl
theorem ent156 : Ent Tryz.prog 156 := ent_of Tryz.func156 (by kernel_rfl) rfl
theorem ent157 : Ent Tryz.prog 157 := ent_of Tryz.func157 (by kernel_rfl) rfl
theorem ent158 : Ent Tryz.prog 158 := ent_of Tryz.func158 (by kernel_rfl) rfl
theorem ent159 : Ent Tryz.prog 159 := ent_of Tryz.func159 (by kernel_rfl) rfl
theorem ent160 : Ent Tryz.prog 160 := ent_of Tryz.func160 (by kernel_rfl) rfl
theorem ent161 : Ent Tryz.prog 161 := ent_of Tryz.func161 (by kernel_rfl) rfl
theorem ent162 : Ent Tryz.prog 162 := ent_of Tryz.func162 (by kernel_rfl) rfl
theorem ent163 : Ent Tryz.prog 163 := ent_of Tryz.func163 (by kernel_rfl) rfl
theorem ent164 : Ent Tryz.prog 164 := ent_of Tryz.func164 (by kernel_rfl) rfl
theorem ent165 : Ent Tryz.prog 165 := ent_of Tryz.func165 (by kernel_rfl) rfl
theorem ent166 : Ent Tryz.prog 166 := ent_of Tryz.func166 (by kernel_rfl) rfl
theorem ent167 : Ent Tryz.prog 167 := ent_of Tryz.func167 (by kernel_rfl) rfl
theorem ent168 : Ent Tryz.prog 168 := ent_of Tryz.func168 (by kernel_rfl) rfl
theorem ent169 : Ent Tryz.prog 169 := ent_of Tryz.func169 (by kernel_rfl) rfl
theorem ent170 : Ent Tryz.prog 170 := ent_of Tryz.func170 (by kernel_rfl) rfl
theorem ent176 : Ent Tryz.prog 176 := ent_of Tryz.func176 (by kernel_rfl) rfl
theorem ent177 : Ent Tryz.prog 177 := ent_of Tryz.func177 (by kernel_rfl) rfl
theorem ent178 : Ent Tryz.prog 178 := ent_of Tryz.func178 (by kernel_rfl) rfl
theorem ent179 : Ent Tryz.prog 179 := ent_of Tryz.func179 (by kernel_rfl) rfl
theorem ent180 : Ent Tryz.prog 180 := ent_of Tryz.func180 (by kernel_rfl) rfl
theorem ent181 : Ent Tryz.prog 181 := ent_of Tryz.func181 (by kernel_rfl) rfl
theorem ent182 : Ent Tryz.prog 182 := ent_of Tryz.func182 (by kernel_rfl) rfl
theorem ent183 : Ent Tryz.prog 183 := ent_of Tryz.func183 (by kernel_rfl) rfl
theorem ent184 : Ent Tryz.prog 184 := ent_of Tryz.func184 (by kernel_rfl) rfl
theorem ent185 : Ent Tryz.prog 185 := ent_of Tryz.func185 (by kernel_rfl) rfl
theorem ent186 : Ent Tryz.prog 186 := ent_of Tryz.func186 (by kernel_rfl) rfl
theorem ent187 : Ent Tryz.prog 187 := ent_of Tryz.func187 (by kernel_rfl) rfl
theorem ent188 : Ent Tryz.prog 188 := ent_of Tryz.func188 (by kernel_rfl) rfl
theorem ent189 : Ent Tryz.prog 189 := ent_of Tryz.func189 (by kernel_rfl) rfl
theorem ent202 : Ent Tryz.prog 202 := ent_of Tryz.func202 (by kernel_rfl) rfl
theorem ent203 : Ent Tryz.prog 203 := ent_of Tryz.func203 (by kernel_rfl) rfl
theorem ent204 : Ent Tryz.prog 204 := ent_of Tryz.func204 (by kernel_rfl) rfl
theorem ent205 : Ent Tryz.prog 205 := ent_of Tryz.func205 (by kernel_rfl) rfl
theorem ent206 : Ent Tryz.prog 206 := ent_of Tryz.func206 (by kernel_rfl) rfl
theorem ent207 : Ent Tryz.prog 207 := ent_of Tryz.func207 (by kernel_rfl) rfl
theorem ent208 : Ent Tryz.prog 208 := ent_of Tryz.func208 (by kernel_rfl) rfl
theorem ent209 : Ent Tryz.prog 209 := ent_of Tryz.func209 (by kernel_rfl) rfl
theorem ent210 : Ent Tryz.prog 210 := ent_of Tryz.func210 (by kernel_rfl) rfl
theorem ent211 : Ent Tryz.prog 211 := ent_of Tryz.func211 (by kernel_rfl) rfl
theorem ent212 : Ent Tryz.prog 212 := ent_of Tryz.func212 (by kernel_rfl) rfl
theorem ent213 : Ent Tryz.prog 213 := ent_of Tryz.func213 (by kernel_rfl) rfl
theorem ent214 : Ent Tryz.prog 214 := ent_of Tryz.func214 (by kernel_rfl) rfl
theorem ent215 : Ent Tryz.prog 215 := ent_of Tryz.func215 (by kernel_rfl) rfl
theorem ent216 : Ent Tryz.prog 216 := ent_of Tryz.func216 (by kernel_rfl) rfl
theorem ent217 : Ent Tryz.prog 217 := ent_of Tryz.func217 (by kernel_rfl) rfl
theorem ent218 : Ent Tryz.prog 218 := ent_of Tryz.func218 (by kernel_rfl) rfl
theorem ent219 : Ent Tryz.prog 219 := ent_of Tryz.func219 (by kernel_rfl) rfl
theorem ent220 : Ent Tryz.prog 220 := ent_of Tryz.func220 (by kernel_rfl) rfl
theorem ent221 : Ent Tryz.prog 221 := ent_of Tryz.func221 (by kernel_rfl) rfl
theorem ent222 : Ent Tryz.prog 222 := ent_of Tryz.func222 (by kernel_rfl) rfl
theorem ent228 : Ent Tryz.prog 228 := ent_of Tryz.func228 (by kernel_rfl) rfl
theorem ent229 : Ent Tryz.prog 229 := ent_of Tryz.func229 (by kernel_rfl) rfl
theorem ent230 : Ent Tryz.prog 230 := ent_of Tryz.func230 (by kernel_rfl) rfl
theorem ent231 : Ent Tryz.prog 231 := ent_of Tryz.func231 (by kernel_rfl) rfl
theorem ent232 : Ent Tryz.prog 232 := ent_of Tryz.func232 (by kernel_rfl) rfl
theorem ent233 : Ent Tryz.prog 233 := ent_of Tryz.func233 (by kernel_rfl) rfl
theorem ent234 : Ent Tryz.prog 234 := ent_of Tryz.func234 (by kernel_rfl) rfl
theorem ent235 : Ent Tryz.prog 235 := ent_of Tryz.func235 (by kernel_rfl) rfl
theorem ent236 : Ent Tryz.prog 236 := ent_of Tryz.func236 (by kernel_rfl) rfl
theorem ent237 : Ent Tryz.prog 237 := ent_of Tryz.func237 (by kernel_rfl) rfl
theorem ent238 : Ent Tryz.prog 238 := ent_of Tryz.func238 (by kernel_rfl) rfl
theorem ent239 : Ent Tryz.prog 239 := ent_of Tryz.func239 (by kernel_rfl) rfl
theorem ent240 : Ent Tryz.prog 240 := ent_of Tryz.func240 (by kernel_rfl) rfl
instance : Fx Tryz.prog where
  ft := (.n (.n (.n (.n (.n (.n .o 7 [0,1,2,3] .o) 8 [0,1,2,3] .o) 13 [0,1] (.n (.n .o 14 [0,1] .o) 18 [0] .o)) 19 [0] (.n (.n (.n .o 30 [0,1,2,3,4,5,6,7] .o) 31 [0,1,2,3,4,5,6,7] .o) 35 [0,8,9,10,11] (.n (.n .o 36 [0,8,9,10,11] .o) 47 [0,1,2,3,4,5,6] .o))) 48 [0,1,2,3,4,5,6] (.n (.n (.n (.n .o 49 [0,1,2,3,4] .o) 50 [0,1,2,3,4] .o) 53 [0,1] (.n (.n .o 54 [0,1] .o) 64 [0,1,2] .o)) 65 [0,1,2] (.n (.n (.n .o 67 [0,3] .o) 68 [0,3] .o) 90 [0,1,2] (.n (.n .o 91 [0,1,2] .o) 103 [0,1,2,3,4,5,6,7] .o)))) 104 [0,1,2,3,4,5,6,7] (.n (.n (.n (.n (.n .o 116 [0,1] .o) 121 [0,1] .o) 122 [0,1] (.n (.n .o 147 [0,12,16] .o) 148 [0,12,16] .o)) 156 [0,1,2,3] (.n (.n (.n .o 157 [0,1,2,3] .o) 158 [0,1,2] .o) 159 [0,1,2] (.n (.n .o 161 [0,1,2] .o) 162 [0,1,2] .o))) 163 [0,1] (.n (.n (.n (.n .o 164 [0,1] .o) 165 [0,1] .o) 166 [0,1] (.n (.n .o 174 [0,1,2] .o) 175 [0,1,2] .o)) 222 [0,8] (.n (.n (.n .o 223 [0,8] .o) 258 [0,1,2,3] .o) 259 [0,1,2,3] (.n (.n .o 271 [0,1,2,3,4,5,6,7,8,9,10] .o) 272 [0,1,2,3,4,5,6,7,8,9,10] .o)))))
  kt := (.n (.n (.n (.n (.n (.n (.n (.n (.n .o 1 (false, 1) .o) 2 (false, 1) .o) 3 (false, 1) (.n .o 4 (false, 1) .o)) 5 (false, 1) (.n (.n .o 6 (false, 1) .o) 7 (true, 4) (.n .o 8 (true, 4) .o))) 9 (false, 1) (.n (.n (.n .o 10 (false, 1) .o) 11 (false, 1) (.n .o 12 (false, 1) .o)) 13 (true, 2) (.n (.n .o 14 (true, 2) .o) 15 (false, 1) (.n .o 16 (false, 1) .o)))) 17 (false, 1) (.n (.n (.n (.n .o 18 (true, 1) .o) 19 (true, 1) (.n .o 21 (false, 1) .o)) 22 (false, 1) (.n (.n .o 23 (false, 1) .o) 24 (false, 1) (.n .o 25 (false, 1) .o))) 26 (false, 1) (.n (.n (.n .o 27 (false, 1) .o) 28 (false, 1) (.n .o 29 (false, 1) .o)) 30 (true, 8) (.n (.n .o 31 (true, 8) .o) 32 (false, 1) (.n .o 33 (false, 1) .o))))) 34 (false, 1) (.n (.n (.n (.n (.n .o 35 (true, 12) .o) 36 (true, 12) (.n .o 37 (false, 1) .o)) 38 (false, 1) (.n (.n .o 39 (false, 1) .o) 40 (false, 1) (.n .o 41 (false, 1) .o))) 42 (false, 1) (.n (.n (.n .o 44 (false, 1) .o) 45 (false, 1) (.n .o 46 (false, 1) .o)) 47 (true, 7) (.n (.n .o 48 (true, 7) .o) 49 (true, 11) (.n .o 50 (true, 11) .o)))) 52 (false, 1) (.n (.n (.n (.n .o 53 (true, 2) .o) 54 (true, 2) (.n .o 56 (false, 1) .o)) 58 (false, 1) (.n (.n .o 59 (false, 1) .o) 60 (false, 1) (.n .o 62 (false, 1) .o))) 63 (false, 1) (.n (.n (.n .o 64 (true, 3) .o) 65 (true, 3) (.n .o 66 (false, 1) .o)) 67 (true, 4) (.n (.n .o 68 (true, 4) .o) 69 (false, 1) (.n .o 70 (false, 1) .o)))))) 72 (false, 1) (.n (.n (.n (.n (.n (.n .o 73 (false, 1) .o) 74 (false, 1) (.n .o 75 (false, 1) .o)) 76 (false, 1) (.n (.n .o 77 (false, 1) .o) 78 (false, 1) (.n .o 80 (false, 1) .o))) 81 (false, 1) (.n (.n (.n .o 83 (false, 1) .o) 84 (false, 1) (.n .o 85 (false, 1) .o)) 87 (false, 1) (.n (.n .o 88 (false, 1) .o) 89 (false, 1) (.n .o 90 (true, 3) .o)))) 91 (true, 3) (.n (.n (.n (.n .o 92 (false, 1) .o) 93 (false, 1) (.n .o 94 (false, 1) .o)) 95 (false, 1) (.n (.n .o 97 (false, 1) .o) 98 (false, 1) (.n .o 99 (false, 1) .o))) 100 (false, 1) (.n (.n (.n .o 101 (false, 1) .o) 102 (false, 1) (.n .o 103 (true, 8) .o)) 104 (true, 8) (.n (.n .o 105 (false, 1) .o) 106 (false, 1) (.n .o 107 (false, 1) .o))))) 108 (false, 1) (.n (.n (.n (.n (.n .o 110 (false, 1) .o) 111 (false, 1) (.n .o 112 (false, 1) .o)) 113 (false, 1) (.n (.n .o 114 (false, 1) .o) 115 (false, 1) (.n .o 116 (true, 2) .o))) 117 (false, 1) (.n (.n (.n .o 118 (false, 1) .o) 119 (false, 1) (.n .o 120 (false, 1) .o)) 121 (true, 2) (.n (.n .o 122 (true, 2) .o) 123 (false, 1) (.n .o 124 (false, 1) .o)))) 125 (false, 1) (.n (.n (.n (.n .o 126 (false, 1) .o) 127 (false, 1) (.n .o 128 (false, 1) .o)) 129 (false, 1) (.n (.n .o 130 (false, 1) .o) 131 (false, 1) (.n .o 132 (false, 1) .o))) 134 (false, 1) (.n (.n (.n .o 135 (false, 1) .o) 136 (false, 1) (.n .o 137 (false, 1) .o)) 138 (false, 1) (.n (.n .o 139 (false, 1) .o) 140 (false, 1) (.n .o 141 (false, 1) .o))))))) 142 (false, 1) (.n (.n (.n (.n (.n (.n (.n .o 143 (false, 1) .o) 144 (false, 1) (.n .o 145 (false, 1) .o)) 146 (false, 1) (.n (.n .o 147 (true, 17) .o) 148 (true, 17) (.n .o 149 (false, 1) .o))) 150 (false, 1) (.n (.n (.n .o 151 (false, 1) .o) 152 (false, 1) (.n .o 153 (false, 1) .o)) 154 (false, 1) (.n (.n .o 155 (false, 1) .o) 156 (true, 4) (.n .o 157 (true, 4) .o)))) 158 (true, 3) (.n (.n (.n (.n .o 159 (true, 3) .o) 160 (false, 1) (.n .o 161 (true, 3) .o)) 162 (true, 3) (.n (.n .o 163 (true, 2) .o) 164 (true, 2) (.n .o 165 (true, 3) .o))) 166 (true, 3) (.n (.n (.n .o 167 (false, 1) .o) 168 (false, 1) (.n .o 169 (false, 1) .o)) 170 (false, 1) (.n (.n .o 171 (false, 1) .o) 172 (false, 1) (.n .o 173 (false, 1) .o))))) 174 (true, 3) (.n (.n (.n (.n (.n .o 175 (true, 3) .o) 176 (false, 1) (.n .o 177 (false, 1) .o)) 178 (false, 1) (.n (.n .o 179 (false, 1) .o) 180 (false, 1) (.n .o 181 (false, 1) .o))) 182 (false, 1) (.n (.n (.n .o 183 (false, 1) .o) 184 (false, 1) (.n .o 185 (false, 1) .o)) 186 (false, 1) (.n (.n .o 187 (false, 1) .o) 188 (false, 1) (.n .o 189 (false, 1) .o)))) 190 (false, 1) (.n (.n (.n (.n .o 191 (false, 1) .o) 192 (false, 1) (.n .o 194 (false, 1) .o)) 195 (false, 1) (.n (.n .o 196 (false, 1) .o) 197 (false, 1) (.n .o 198 (false, 1) .o))) 199 (false, 1) (.n (.n (.n .o 200 (false, 1) .o) 201 (false, 1) (.n .o 202 (false, 1) .o)) 203 (false, 1) (.n (.n .o 204 (false, 1) .o) 205 (false, 1) (.n .o 206 (false, 1) .o)))))) 207 (false, 1) (.n (.n (.n (.n (.n (.n .o 208 (false, 1) .o) 209 (false, 1) (.n .o 210 (false, 1) .o)) 211 (false, 1) (.n (.n .o 213 (false, 1) .o) 214 (false, 1) (.n .o 215 (false, 1) .o))) 216 (false, 1) (.n (.n (.n .o 217 (false, 1) .o) 219 (false, 1) (.n .o 220 (false, 1) .o)) 221 (false, 1) (.n (.n .o 222 (true, 11) .o) 223 (true, 11) (.n .o 224 (false, 1) .o)))) 225 (false, 1) (.n (.n (.n (.n .o 226 (false, 1) .o) 227 (false, 1) (.n .o 228 (false, 1) .o)) 229 (false, 1) (.n (.n .o 230 (false, 1) .o) 231 (false, 1) (.n .o 232 (false, 1) .o))) 233 (false, 1) (.n (.n (.n .o 234 (false, 1) .o) 235 (false, 1) (.n .o 236 (false, 1) .o)) 237 (false, 1) (.n (.n .o 238 (false, 1) .o) 239 (false, 1) (.n .o 240 (false, 1) .o))))) 241 (true, 10) (.n (.n (.n (.n (.n .o 242 (false, 1) .o) 243 (false, 1) (.n .o 244 (false, 1) .o)) 245 (false, 1) (.n (.n .o 246 (false, 1) .o) 247 (false, 1) (.n .o 248 (false, 1) .o))) 249 (false, 1) (.n (.n (.n .o 250 (false, 1) .o) 251 (false, 1) (.n .o 252 (false, 1) .o)) 253 (false, 1) (.n (.n .o 254 (false, 1) .o) 255 (false, 1) (.n .o 256 (false, 1) .o)))) 257 (false, 1) (.n (.n (.n (.n .o 258 (true, 4) .o) 259 (true, 4) (.n .o 260 (true, 0) .o)) 261 (true, 0) (.n (.n .o 262 (true, 0) .o) 263 (false, 1) (.n .o 264 (false, 1) .o))) 265 (false, 1) (.n (.n (.n .o 266 (false, 1) .o) 267 (false, 1) (.n .o 268 (false, 1) .o)) 269 (false, 1) (.n (.n .o 270 (false, 1) .o) 271 (true, 11) (.n .o 272 (true, 11) .o))))))))
  st := (.n (.n (.n (.n (.n .o 22 (9, 1, 16) .o) 23 (157, 4, 40) .o) 24 (159, 3, 48) (.n .o 25 (162, 3, 40) .o)) 26 (104, 8, 152) (.n (.n .o 27 (166, 3, 40) .o) 28 (175, 3, 24) (.n .o 29 (175, 3, 24) .o))) 32 (54, 2, 16) (.n (.n (.n (.n .o 33 (42, 1, 24) .o) 34 (50, 11, 128) .o) 42 (3, 1, 8) (.n .o 46 (48, 7, 72) .o)) 66 (4, 1, 1) (.n (.n .o 70 (91, 3, 24) .o) 102 (164, 2, 16) (.n .o 120 (66, 1, 24) .o))))
  fk := by kernel_rfl
  kk := by kernel_rfl
  sk := by kernel_rfl
end Go.Proofs.YtaeagngfhceceaaGreatDoor
