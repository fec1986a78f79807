/- Merged texts of this proof (walks and plain laws), printed by a program of the prover. -/
import Derived.Test.YtfbfdnoodccgiaaGreatDoorZb
import Derived.Test.YtfbfdnoodccgiaaGreatDoorProg
import Derived.KernelRfl
namespace Go.Proofs.YtfbfdnoodccgiaaGreatDoor
open Go.Proofs
theorem mixed:Tryz.prog.follows .mixedOrders=true:=by kernel_rfl
theorem tk3:tk Tryz.prog 3=some (false,1):=by kernel_rfl
theorem tk4:tk Tryz.prog 4=some (false,1):=by kernel_rfl
theorem tk9:tk Tryz.prog 9=some (false,1):=by kernel_rfl
theorem tk34:tk Tryz.prog 34=some (false,1):=by kernel_rfl
theorem tk43:tk Tryz.prog 43=some (true,8):=by kernel_rfl
theorem tk48:tk Tryz.prog 48=some (true,12):=by kernel_rfl
theorem tk56:tk Tryz.prog 56=some (true,7):=by kernel_rfl
theorem tk66:tk Tryz.prog 66=some (false,1):=by kernel_rfl
theorem tk78:tk Tryz.prog 78=some (false,1):=by kernel_rfl
theorem tk86:tk Tryz.prog 86=some (false,1):=by kernel_rfl
theorem tk94:tk Tryz.prog 94=some (true,3):=by kernel_rfl
theorem tk97:tk Tryz.prog 97=some (true,4):=by kernel_rfl
theorem J5r:tk Tryz.prog 105=some (true,7):=by kernel_rfl
theorem J5k:tk Tryz.prog 246=some (false,1):=by kernel_rfl
theorem zv3:zv Tryz.prog 3=some [.int .i64 0]:=by kernel_rfl
theorem zv4:zv Tryz.prog 4=some [.bool false]:=by kernel_rfl
theorem zv9:zv Tryz.prog 9=some [.string ⟨#[]⟩]:=by kernel_rfl
theorem zv43:zv Tryz.prog 43=some [.slice none 0 0,.slice none 0 0,.slice none 0 0,.slice none 0 0,.slice none 0 0,.slice none 0 0,.int .i64 0,.slice none 0 0]:=by kernel_rfl
theorem zv48:zv Tryz.prog 48=some [.slice none 0 0,.slice none 0 0,.slice none 0 0,.slice none 0 0,.slice none 0 0,.slice none 0 0,.int .i64 0,.slice none 0 0,.slice none 0 0,.slice none 0 0,.slice none 0 0,.int .i64 0]:=by kernel_rfl
theorem zv51:zv Tryz.prog 51=some [.int .i64 0,.int .i64 0,.int .i64 0]:=by kernel_rfl
theorem zv53:zv Tryz.prog 53=some (List.replicate 4 (.int .i64 0)):=by kernel_rfl
theorem zv56:zv Tryz.prog 56=some (List.replicate 7 (.int .i64 0)):=by kernel_rfl
theorem zv68:zv Tryz.prog 68=some [.pointer none,.slice none 0 0]:=by kernel_rfl
theorem zv71:zv Tryz.prog 71=some [.string ⟨#[]⟩,.nilFunc]:=by kernel_rfl
theorem zv86:zv Tryz.prog 86=some [.slice none 0 0]:=by kernel_rfl
theorem zv94:zv Tryz.prog 94=some [.slice none 0 0,.slice none 0 0,.slice none 0 0]:=by kernel_rfl
theorem zv97:zv Tryz.prog 97=some (List.replicate 4 (.slice none 0 0)):=by kernel_rfl
theorem zv99:zv Tryz.prog 99=some [.slice none 0 0,.slice none 0 0,.slice none 0 0,.slice none 0 0,.slice none 0 0,.slice none 0 0,.int .i64 0,.slice none 0 0,.slice none 0 0,.slice none 0 0,.slice none 0 0,.int .i64 0,.slice none 0 0,.slice none 0 0,.slice none 0 0,.slice none 0 0,.bool false,.int .i64 0,.int .i64 0,.int .i64 0,.int .i64 0]:=by kernel_rfl
theorem Jvb:zv Tryz.prog 103=some [.int .i64 0,.int .i64 0]:=by kernel_rfl
theorem Jpx:zv Tryz.prog 105=some [.int .i64 0,.int .i64 0,.int .i64 0,.int .i64 0,.int .i64 0,.slice none 0 0,.bool false]:=by kernel_rfl
theorem Jly:zv Tryz.prog 107=some [.string ⟨#[]⟩,.int .i64 0,.int .i64 0,.slice none 0 0,.int .i64 0,.int .i64 0,.int .i64 0,.int .i64 0,.int .i64 0,.slice none 0 0,.bool false]:=by kernel_rfl
theorem Jpi:zv Tryz.prog 109=some [.int .i64 0,.int .i64 0,.bool false]:=by kernel_rfl
theorem Js2:zv Tryz.prog 120=some [.string ⟨#[]⟩,.int .i64 0,.int .i64 0,.int .i64 0]:=by kernel_rfl
theorem Jvz:zv Tryz.prog 122=some [.string ⟨#[]⟩,.int .i64 0,.slice none 0 0]:=by kernel_rfl
theorem Jt7:zv Tryz.prog 124=some [.int .i64 0,.int .i64 0,.slice none 0 0]:=by kernel_rfl
theorem Jpf:zv Tryz.prog 126=some [.int .i64 0,.int .i64 0]:=by kernel_rfl
theorem Jmn:zv Tryz.prog 129=some [.string ⟨#[]⟩,.int .i64 0,.int .i64 0,.slice none 0 0,.slice none 0 0,.slice none 0 0,.slice none 0 0,.slice none 0 0]:=by kernel_rfl
theorem Jvd:zv Tryz.prog 143=some [.slice none 0 0,.slice none 0 0,.slice none 0 0,.slice none 0 0,.slice none 0 0,.slice none 0 0,.int .i64 0,.slice none 0 0,.slice none 0 0,.slice none 0 0,.slice none 0 0,.int .i64 0,.slice none 0 0,.slice none 0 0,.slice none 0 0,.slice none 0 0,.map none]:=by kernel_rfl
theorem J50:zv Tryz.prog 182=some [.nilFunc]:=by kernel_rfl
theorem J5y:zv Tryz.prog 207=some [.slice none 0 0,.int .i64 0,.int .i64 0]:=by kernel_rfl
theorem J6k:zv Tryz.prog 217=some [.slice none 0 0,.slice none 0 0,.slice none 0 0,.slice none 0 0,.slice none 0 0,.slice none 0 0,.int .i64 0,.slice none 0 0,.slice none 0 0,.slice none 0 0,.slice none 0 0]:=by kernel_rfl
theorem J1h:zv Tryz.prog 286=some (List.replicate 10 (.int .i64 0)):=by kernel_rfl
theorem sl23:sl Tryz.prog 23=some (56,7,56):=by kernel_rfl
theorem sl34:sl Tryz.prog 34=some (9,1,16):=by kernel_rfl
theorem sl35:sl Tryz.prog 35=some (120,4,40):=by kernel_rfl
theorem sl36:sl Tryz.prog 36=some (122,3,48):=by kernel_rfl
theorem sl37:sl Tryz.prog 37=some (124,3,40):=by kernel_rfl
theorem sl38:sl Tryz.prog 38=some (129,8,152):=by kernel_rfl
theorem sl41:sl Tryz.prog 41=some (109,3,24):=by kernel_rfl
theorem sl44:sl Tryz.prog 44=some (103,2,16):=by kernel_rfl
theorem sl45:sl Tryz.prog 45=some (86,1,24):=by kernel_rfl
theorem sl46:sl Tryz.prog 46=some (107,11,128):=by kernel_rfl
theorem sl54:sl Tryz.prog 54=some (53,4,32):=by kernel_rfl
theorem sl66:sl Tryz.prog 66=some (5,1,1):=by kernel_rfl
theorem sl76:sl Tryz.prog 76=some (78,1,8):=by kernel_rfl
theorem sl86:sl Tryz.prog 86=some (3,1,8):=by kernel_rfl
theorem sl95:sl Tryz.prog 95=some (4,1,1):=by kernel_rfl
theorem Jzi:sl Tryz.prog 127=some (126,2,16):=by kernel_rfl
theorem Jto:sl Tryz.prog 253=some (105,7,72):=by kernel_rfl
theorem Jd8:arr Tryz.prog 286=some (10,1):=by kernel_rfl
theorem J56:plc Tryz.prog 43=some [(0,1),(1,1),(2,1),(3,1),(4,1),(5,1),(6,1),(7,1)]:=by kernel_rfl
theorem J6c:plc Tryz.prog 48=some [(0,8),(8,1),(9,1),(10,1),(11,1)]:=by kernel_rfl
theorem J42:plc Tryz.prog 51=some [(0,1),(1,1),(2,1)]:=by kernel_rfl
theorem J6g:plc Tryz.prog 53=some [(0,1),(1,3)]:=by kernel_rfl
theorem Jvh:plc Tryz.prog 56=some [(0,1),(1,1),(2,3),(5,1),(6,1)]:=by kernel_rfl
theorem Jhs:plc Tryz.prog 94=some [(0,1),(1,1),(2,1)]:=by kernel_rfl
theorem Jgc:plc Tryz.prog 97=some [(0,3),(3,1)]:=by kernel_rfl
theorem J6e:plc Tryz.prog 99=some [(0,12),(12,4),(16,1),(17,1),(18,1),(19,1),(20,1)]:=by kernel_rfl
theorem J37:plc Tryz.prog 103=some [(0,1),(1,1)]:=by kernel_rfl
theorem Jq5:plc Tryz.prog 105=some [(0,1),(1,1),(2,1),(3,1),(4,1),(5,1),(6,1)]:=by kernel_rfl
theorem Jug:plc Tryz.prog 107=some [(0,1),(1,1),(2,1),(3,1),(4,7)]:=by kernel_rfl
theorem Jsy:plc Tryz.prog 109=some [(0,1),(1,1),(2,1)]:=by kernel_rfl
theorem Jyc:plc Tryz.prog 120=some [(0,1),(1,1),(2,1),(3,1)]:=by kernel_rfl
theorem J3m:plc Tryz.prog 122=some [(0,1),(1,1),(2,1)]:=by kernel_rfl
theorem J1e:plc Tryz.prog 124=some [(0,1),(1,1),(2,1)]:=by kernel_rfl
theorem Jyk:plc Tryz.prog 126=some [(0,1),(1,1)]:=by kernel_rfl
theorem Jx6:plc Tryz.prog 129=some [(0,1),(1,1),(2,1),(3,1),(4,1),(5,1),(6,1),(7,1)]:=by kernel_rfl
theorem Jm8:plc Tryz.prog 143=some [(0,12),(12,4),(16,1)]:=by kernel_rfl
theorem J31:plc Tryz.prog 217=some [(0,8),(8,3)]:=by kernel_rfl
theorem ent5:Ent Tryz.prog 5:=Jab Tryz.func5 (by kernel_rfl) rfl
theorem ent6:Ent Tryz.prog 6:=Jab Tryz.func6 (by kernel_rfl) rfl
theorem ent8:Ent Tryz.prog 8:=Jab Tryz.func8 (by kernel_rfl) rfl
theorem ent9:Ent Tryz.prog 9:=Jab Tryz.func9 (by kernel_rfl) rfl
theorem J5c:Ent Tryz.prog 10:=Jab Tryz.func10 (by kernel_rfl) rfl
theorem J6m:Ent Tryz.prog 11:=Jab Tryz.func11 (by kernel_rfl) rfl
theorem J5e:Ent Tryz.prog 12:=Jab Tryz.func12 (by kernel_rfl) rfl
theorem J6a:Ent Tryz.prog 13:=Jab Tryz.func13 (by kernel_rfl) rfl
theorem J55:Ent Tryz.prog 14:=Jab Tryz.func14 (by kernel_rfl) rfl
theorem J5w:Ent Tryz.prog 15:=Jab Tryz.func15 (by kernel_rfl) rfl
theorem J5o:Ent Tryz.prog 16:=Jab Tryz.func16 (by kernel_rfl) rfl
theorem J6q:Ent Tryz.prog 17:=Jab Tryz.func17 (by kernel_rfl) rfl
theorem J5z:Ent Tryz.prog 20:=Jab Tryz.func20 (by kernel_rfl) rfl
theorem Jxu:Ent Tryz.prog 21:=Jab Tryz.func21 (by kernel_rfl) rfl
theorem J1w:Ent Tryz.prog 22:=Jab Tryz.func22 (by kernel_rfl) rfl
theorem J54:Ent Tryz.prog 23:=Jab Tryz.func23 (by kernel_rfl) rfl
theorem J5v:Ent Tryz.prog 24:=Jab Tryz.func24 (by kernel_rfl) rfl
theorem J5u:Ent Tryz.prog 25:=Jab Tryz.func25 (by kernel_rfl) rfl
theorem J6r:Ent Tryz.prog 26:=Jab Tryz.func26 (by kernel_rfl) rfl
theorem J4k:Ent Tryz.prog 27:=Jab Tryz.func27 (by kernel_rfl) rfl
theorem J6b:Ent Tryz.prog 28:=Jab Tryz.func28 (by kernel_rfl) rfl
theorem Jy3:Ent Tryz.prog 29:=Jab Tryz.func29 (by kernel_rfl) rfl
theorem J3b:Ent Tryz.prog 30:=Jab Tryz.func30 (by kernel_rfl) rfl
theorem Jfj:Ent Tryz.prog 31:=Jab Tryz.func31 (by kernel_rfl) rfl
theorem J57:Ent Tryz.prog 32:=Jab Tryz.func32 (by kernel_rfl) rfl
theorem J6i:Ent Tryz.prog 33:=Jab Tryz.func33 (by kernel_rfl) rfl
theorem J5s:Ent Tryz.prog 34:=Jab Tryz.func34 (by kernel_rfl) rfl
theorem J5p:Ent Tryz.prog 36:=Jab Tryz.func36 (by kernel_rfl) rfl
theorem J1i:Ent Tryz.prog 37:=Jab Tryz.func37 (by kernel_rfl) rfl
theorem J5m:Ent Tryz.prog 40:=Jab Tryz.func40 (by kernel_rfl) rfl
theorem Jt0:Ent Tryz.prog 42:=Jab Tryz.func42 (by kernel_rfl) rfl
theorem J1u:Ent Tryz.prog 43:=Jab Tryz.func43 (by kernel_rfl) rfl
theorem J6p:Ent Tryz.prog 44:=Jab Tryz.func44 (by kernel_rfl) rfl
theorem J1x:Ent Tryz.prog 45:=Jab Tryz.func45 (by kernel_rfl) rfl
theorem J5j:Ent Tryz.prog 50:=Jab Tryz.func50 (by kernel_rfl) rfl
theorem J53:Ent Tryz.prog 51:=Jab Tryz.func51 (by kernel_rfl) rfl
theorem J3d:Ent Tryz.prog 55:=Jab Tryz.func55 (by kernel_rfl) rfl
theorem J5q:Ent Tryz.prog 56:=Jab Tryz.func56 (by kernel_rfl) rfl
theorem Jf9:Ent Tryz.prog 57:=Jab Tryz.func57 (by kernel_rfl) rfl
theorem Jy9:Ent Tryz.prog 58:=Jab Tryz.func58 (by kernel_rfl) rfl
theorem J5n:Ent Tryz.prog 59:=Jab Tryz.func59 (by kernel_rfl) rfl
theorem J33:Ent Tryz.prog 60:=Jab Tryz.func60 (by kernel_rfl) rfl
theorem J6j:Ent Tryz.prog 61:=Jab Tryz.func61 (by kernel_rfl) rfl
theorem J0s:Ent Tryz.prog 80:=Jab Tryz.func80 (by kernel_rfl) rfl
theorem Jwj:Ent Tryz.prog 81:=Jab Tryz.func81 (by kernel_rfl) rfl
theorem J2t:Ent Tryz.prog 82:=Jab Tryz.func82 (by kernel_rfl) rfl
theorem J5h:Ent Tryz.prog 83:=Jab Tryz.func83 (by kernel_rfl) rfl
theorem J5g:Ent Tryz.prog 84:=Jab Tryz.func84 (by kernel_rfl) rfl
theorem Jld:Ent Tryz.prog 85:=Jab Tryz.func85 (by kernel_rfl) rfl
theorem Jr3:Ent Tryz.prog 86:=Jab Tryz.func86 (by kernel_rfl) rfl
theorem Jv0:Ent Tryz.prog 87:=Jab Tryz.func87 (by kernel_rfl) rfl
theorem J5b:Ent Tryz.prog 88:=Jab Tryz.func88 (by kernel_rfl) rfl
theorem J3l:Ent Tryz.prog 89:=Jab Tryz.func89 (by kernel_rfl) rfl
theorem Jpc:Ent Tryz.prog 90:=Jab Tryz.func90 (by kernel_rfl) rfl
theorem Jw9:Ent Tryz.prog 91:=Jab Tryz.func91 (by kernel_rfl) rfl
theorem Jmf:Ent Tryz.prog 92:=Jab Tryz.func92 (by kernel_rfl) rfl
theorem J47:Ent Tryz.prog 93:=Jab Tryz.func93 (by kernel_rfl) rfl
theorem J5a:Ent Tryz.prog 94:=Jab Tryz.func94 (by kernel_rfl) rfl
theorem Jwd:Ent Tryz.prog 95:=Jab Tryz.func95 (by kernel_rfl) rfl
theorem Jol:Ent Tryz.prog 114:=Jab Tryz.func114 (by kernel_rfl) rfl
theorem Jch:Ent Tryz.prog 115:=Jab Tryz.func115 (by kernel_rfl) rfl
theorem J1g:Ent Tryz.prog 116:=Jab Tryz.func116 (by kernel_rfl) rfl
theorem J15:Ent Tryz.prog 117:=Jab Tryz.func117 (by kernel_rfl) rfl
theorem J3t:Ent Tryz.prog 118:=Jab Tryz.func118 (by kernel_rfl) rfl
theorem J4t:Ent Tryz.prog 119:=Jab Tryz.func119 (by kernel_rfl) rfl
theorem J3w:Ent Tryz.prog 120:=Jab Tryz.func120 (by kernel_rfl) rfl
theorem J2z:Ent Tryz.prog 121:=Jab Tryz.func121 (by kernel_rfl) rfl
theorem Jip:Ent Tryz.prog 122:=Jab Tryz.func122 (by kernel_rfl) rfl
theorem J4p:Ent Tryz.prog 123:=Jab Tryz.func123 (by kernel_rfl) rfl
theorem Jn2:Ent Tryz.prog 124:=Jab Tryz.func124 (by kernel_rfl) rfl
theorem Jed:Ent Tryz.prog 125:=Jab Tryz.func125 (by kernel_rfl) rfl
theorem J4n:Ent Tryz.prog 126:=Jab Tryz.func126 (by kernel_rfl) rfl
theorem J2r:Ent Tryz.prog 127:=Jab Tryz.func127 (by kernel_rfl) rfl
theorem J2c:Ent Tryz.prog 128:=Jab Tryz.func128 (by kernel_rfl) rfl
theorem J2h:Ent Tryz.prog 129:=Jab Tryz.func129 (by kernel_rfl) rfl
theorem J24:Ent Tryz.prog 130:=Jab Tryz.func130 (by kernel_rfl) rfl
theorem J2b:Ent Tryz.prog 131:=Jab Tryz.func131 (by kernel_rfl) rfl
theorem Jsm:Ent Tryz.prog 132:=Jab Tryz.func132 (by kernel_rfl) rfl
theorem J38:Ent Tryz.prog 133:=Jab Tryz.func133 (by kernel_rfl) rfl
theorem J28:Ent Tryz.prog 134:=Jab Tryz.func134 (by kernel_rfl) rfl
theorem J1f:Ent Tryz.prog 135:=Jab Tryz.func135 (by kernel_rfl) rfl
theorem J4g:Ent Tryz.prog 136:=Jab Tryz.func136 (by kernel_rfl) rfl
theorem J40:Ent Tryz.prog 137:=Jab Tryz.func137 (by kernel_rfl) rfl
theorem J20:Ent Tryz.prog 138:=Jab Tryz.func138 (by kernel_rfl) rfl
theorem J2w:Ent Tryz.prog 139:=Jab Tryz.func139 (by kernel_rfl) rfl
theorem Jnq:Ent Tryz.prog 149:=Jab Tryz.func149 (by kernel_rfl) rfl
theorem J3i:Ent Tryz.prog 150:=Jab Tryz.func150 (by kernel_rfl) rfl
theorem J27:Ent Tryz.prog 151:=Jab Tryz.func151 (by kernel_rfl) rfl
theorem J4e:Ent Tryz.prog 152:=Jab Tryz.func152 (by kernel_rfl) rfl
theorem J2a:Ent Tryz.prog 153:=Jab Tryz.func153 (by kernel_rfl) rfl
theorem J4d:Ent Tryz.prog 154:=Jab Tryz.func154 (by kernel_rfl) rfl
theorem J4q:Ent Tryz.prog 155:=Jab Tryz.func155 (by kernel_rfl) rfl
theorem Jru:Ent Tryz.prog 156:=Jab Tryz.func156 (by kernel_rfl) rfl
theorem Jx5:Ent Tryz.prog 157:=Jab Tryz.func157 (by kernel_rfl) rfl
theorem J3n:Ent Tryz.prog 158:=Jab Tryz.func158 (by kernel_rfl) rfl
theorem Jnb:Ent Tryz.prog 159:=Jab Tryz.func159 (by kernel_rfl) rfl
theorem J4b:Ent Tryz.prog 160:=Jab Tryz.func160 (by kernel_rfl) rfl
theorem J2o:Ent Tryz.prog 161:=Jab Tryz.func161 (by kernel_rfl) rfl
theorem J4o:Ent Tryz.prog 162:=Jab Tryz.func162 (by kernel_rfl) rfl
theorem J30:Ent Tryz.prog 163:=Jab Tryz.func163 (by kernel_rfl) rfl
theorem Jye:Ent Tryz.prog 164:=Jab Tryz.func164 (by kernel_rfl) rfl
theorem J1b:Ent Tryz.prog 165:=Jab Tryz.func165 (by kernel_rfl) rfl
theorem J2u:Ent Tryz.prog 166:=Jab Tryz.func166 (by kernel_rfl) rfl
theorem Jyd:Ent Tryz.prog 167:=Jab Tryz.func167 (by kernel_rfl) rfl
theorem J4l:Ent Tryz.prog 168:=Jab Tryz.func168 (by kernel_rfl) rfl
theorem J10:Ent Tryz.prog 169:=Jab Tryz.func169 (by kernel_rfl) rfl
theorem J1j:Ent Tryz.prog 170:=Jab Tryz.func170 (by kernel_rfl) rfl
theorem J2s:Ent Tryz.prog 171:=Jab Tryz.func171 (by kernel_rfl) rfl
theorem J3f:Ent Tryz.prog 172:=Jab Tryz.func172 (by kernel_rfl) rfl
theorem J1y:Ent Tryz.prog 173:=Jab Tryz.func173 (by kernel_rfl) rfl
theorem Jkl:Ent Tryz.prog 174:=Jab Tryz.func174 (by kernel_rfl) rfl
theorem Jjr:Ent Tryz.prog 175:=Jab Tryz.func175 (by kernel_rfl) rfl
theorem Jrq:Ent Tryz.prog 176:=Jab Tryz.func176 (by kernel_rfl) rfl
theorem J34:Ent Tryz.prog 177:=Jab Tryz.func177 (by kernel_rfl) rfl
theorem Jx7:Ent Tryz.prog 178:=Jab Tryz.func178 (by kernel_rfl) rfl
theorem J4u:Ent Tryz.prog 183:=Jab Tryz.func183 (by kernel_rfl) rfl
theorem J2g:Ent Tryz.prog 184:=Jab Tryz.func184 (by kernel_rfl) rfl
theorem J2j:Ent Tryz.prog 185:=Jab Tryz.func185 (by kernel_rfl) rfl
theorem J3g:Ent Tryz.prog 186:=Jab Tryz.func186 (by kernel_rfl) rfl
theorem J1k:Ent Tryz.prog 187:=Jab Tryz.func187 (by kernel_rfl) rfl
theorem J49:Ent Tryz.prog 188:=Jab Tryz.func188 (by kernel_rfl) rfl
theorem J1t:Ent Tryz.prog 189:=Jab Tryz.func189 (by kernel_rfl) rfl
theorem J3e:Ent Tryz.prog 190:=Jab Tryz.func190 (by kernel_rfl) rfl
theorem Jyw:Ent Tryz.prog 191:=Jab Tryz.func191 (by kernel_rfl) rfl
theorem J12:Ent Tryz.prog 192:=Jab Tryz.func192 (by kernel_rfl) rfl
theorem J41:Ent Tryz.prog 193:=Jab Tryz.func193 (by kernel_rfl) rfl
theorem J22:Ent Tryz.prog 194:=Jab Tryz.func194 (by kernel_rfl) rfl
theorem Jr6:Ent Tryz.prog 195:=Jab Tryz.func195 (by kernel_rfl) rfl
theorem Jyj:Ent Tryz.prog 196:=Jab Tryz.func196 (by kernel_rfl) rfl
theorem J1n:Ent Tryz.prog 197:=Jab Tryz.func197 (by kernel_rfl) rfl
theorem J1c:Ent Tryz.prog 198:=Jab Tryz.func198 (by kernel_rfl) rfl
theorem J3h:Ent Tryz.prog 199:=Jab Tryz.func199 (by kernel_rfl) rfl
theorem J2q:Ent Tryz.prog 200:=Jab Tryz.func200 (by kernel_rfl) rfl
theorem J3z:Ent Tryz.prog 201:=Jab Tryz.func201 (by kernel_rfl) rfl
theorem J48:Ent Tryz.prog 202:=Jab Tryz.func202 (by kernel_rfl) rfl
theorem Jf3:Ent Tryz.prog 203:=Jab Tryz.func203 (by kernel_rfl) rfl
theorem J3c:Ent Tryz.prog 204:=Jab Tryz.func204 (by kernel_rfl) rfl
theorem J4h:Ent Tryz.prog 205:=Jab Tryz.func205 (by kernel_rfl) rfl
theorem J1m:Ent Tryz.prog 206:=Jab Tryz.func206 (by kernel_rfl) rfl
theorem J2x:Ent Tryz.prog 207:=Jab Tryz.func207 (by kernel_rfl) rfl
theorem Jyf:Ent Tryz.prog 208:=Jab Tryz.func208 (by kernel_rfl) rfl
theorem J23:Ent Tryz.prog 209:=Jab Tryz.func209 (by kernel_rfl) rfl
theorem J2d:Ent Tryz.prog 210:=Jab Tryz.func210 (by kernel_rfl) rfl
theorem J17:Ent Tryz.prog 211:=Jab Tryz.func211 (by kernel_rfl) rfl
theorem J11:Ent Tryz.prog 212:=Jab Tryz.func212 (by kernel_rfl) rfl
theorem J4a:Ent Tryz.prog 213:=Jab Tryz.func213 (by kernel_rfl) rfl
theorem J4r:Ent Tryz.prog 234:=Jab Tryz.func234 (by kernel_rfl) rfl
theorem J2m:Ent Tryz.prog 235:=Jab Tryz.func235 (by kernel_rfl) rfl
theorem J1d:Ent Tryz.prog 236:=Jab Tryz.func236 (by kernel_rfl) rfl
theorem J1q:Ent Tryz.prog 237:=Jab Tryz.func237 (by kernel_rfl) rfl
theorem J4w:Ent Tryz.prog 238:=Jab Tryz.func238 (by kernel_rfl) rfl
instance:Fx Tryz.prog where
 ft:=(.n (.n (.n (.n (.n (.n .o 7 [0,1,2,3] .o) 8 [0,1,2,3] (.n .o 13 [0,1] .o)) 14 [0,1] (.n (.n .o 18 [0] .o) 19 [0] (.n .o 42 [0,1,2,3,4,5,6,7] .o))) 43 [0,1,2,3,4,5,6,7] (.n (.n (.n .o 47 [0,8,9,10,11] .o) 48 [0,8,9,10,11] (.n .o 50 [0,1,2] .o)) 51 [0,1,2] (.n (.n .o 52 [0,1] .o) 53 [0,1] (.n .o 55 [0,1,2,5,6] .o)))) 56 [0,1,2,5,6] (.n (.n (.n (.n .o 67 [0,1] .o) 68 [0,1] (.n .o 70 [0,1] .o)) 71 [0,1] (.n (.n .o 93 [0,1,2] .o) 94 [0,1,2] (.n .o 96 [0,3] .o))) 97 [0,3] (.n (.n (.n .o 98 [0,12,16,17,18,19,20] .o) 99 [0,12,16,17,18,19,20] (.n .o 102 [0,1] .o)) 103 [0,1] (.n (.n .o 104 [0,1,2,3,4,5,6] .o) 105 [0,1,2,3,4,5,6] .o)))) 106 [0,1,2,3,4] (.n (.n (.n (.n (.n .o 107 [0,1,2,3,4] .o) 108 [0,1,2] (.n .o 109 [0,1,2] .o)) 119 [0,1,2,3] (.n (.n .o 120 [0,1,2,3] .o) 121 [0,1,2] (.n .o 122 [0,1,2] .o))) 123 [0,1,2] (.n (.n (.n .o 124 [0,1,2] .o) 125 [0,1] (.n .o 126 [0,1] .o)) 128 [0,1,2,3,4,5,6,7] (.n (.n .o 129 [0,1,2,3,4,5,6,7] .o) 142 [0,12,16] (.n .o 143 [0,12,16] .o)))) 206 [0,1] (.n (.n (.n (.n .o 207 [0,1] .o) 216 [0,8] (.n .o 217 [0,8] .o)) 223 [0,1] (.n (.n .o 224 [0,1] .o) 231 [0,1,2] (.n .o 232 [0,1,2] .o))) 245 [0,1] (.n (.n (.n .o 261 [0] .o) 262 [0] (.n .o 290 [0,1,2,3] .o)) 291 [0,1,2,3] (.n (.n .o 301 [0,1,2,3,4,5,6,7,8,9,10] .o) 302 [0,1,2,3,4,5,6,7,8,9,10] .o)))))
 kt:=(.n (.n (.n (.n (.n (.n (.n (.n (.n .o 1 (false,1) .o) 2 (false,1) .o) 3 (false,1) (.n .o 4 (false,1) .o)) 5 (false,1) (.n (.n .o 6 (false,1) .o) 7 (true,4) (.n .o 8 (true,4) .o))) 9 (false,1) (.n (.n (.n (.n .o 10 (false,1) .o) 11 (false,1) .o) 12 (false,1) (.n .o 13 (true,2) .o)) 14 (true,2) (.n (.n .o 15 (false,1) .o) 16 (false,1) (.n .o 17 (false,1) .o)))) 18 (true,1) (.n (.n (.n (.n (.n .o 19 (true,1) .o) 21 (false,1) .o) 22 (false,1) (.n .o 23 (false,1) .o)) 24 (false,1) (.n (.n .o 26 (false,1) .o) 27 (false,1) (.n .o 28 (false,1) .o))) 30 (false,1) (.n (.n (.n .o 31 (false,1) .o) 32 (false,1) (.n .o 33 (false,1) .o)) 34 (false,1) (.n (.n .o 35 (false,1) .o) 36 (false,1) (.n .o 37 (false,1) .o))))) 38 (false,1) (.n (.n (.n (.n (.n (.n .o 39 (false,1) .o) 40 (false,1) .o) 41 (false,1) (.n .o 42 (true,8) .o)) 43 (true,8) (.n (.n .o 44 (false,1) .o) 45 (false,1) (.n .o 46 (false,1) .o))) 47 (true,12) (.n (.n (.n (.n .o 48 (true,12) .o) 49 (false,1) .o) 50 (true,3) (.n .o 51 (true,3) .o)) 52 (true,4) (.n (.n .o 53 (true,4) .o) 54 (false,1) (.n .o 55 (true,7) .o)))) 56 (true,7) (.n (.n (.n (.n (.n .o 57 (false,1) .o) 58 (false,1) .o) 60 (false,1) (.n .o 62 (false,1) .o)) 63 (false,1) (.n (.n .o 64 (false,1) .o) 65 (false,1) (.n .o 66 (false,1) .o))) 67 (true,2) (.n (.n (.n .o 68 (true,2) .o) 69 (false,1) (.n .o 70 (true,2) .o)) 71 (true,2) (.n (.n .o 73 (false,1) .o) 74 (false,1) (.n .o 75 (false,1) .o)))))) 76 (false,1) (.n (.n (.n (.n (.n (.n (.n .o 77 (false,1) .o) 78 (false,1) .o) 82 (false,1) (.n .o 83 (false,1) .o)) 84 (false,1) (.n (.n .o 85 (false,1) .o) 86 (false,1) (.n .o 88 (false,1) .o))) 89 (false,1) (.n (.n (.n (.n .o 91 (false,1) .o) 92 (false,1) .o) 93 (true,3) (.n .o 94 (true,3) .o)) 95 (false,1) (.n (.n .o 96 (true,4) .o) 97 (true,4) (.n .o 98 (true,21) .o)))) 99 (true,21) (.n (.n (.n (.n (.n .o 100 (false,1) .o) 101 (false,1) .o) 102 (true,2) (.n .o 103 (true,2) .o)) 104 (true,7) (.n (.n .o 105 (true,7) .o) 106 (true,11) (.n .o 107 (true,11) .o))) 108 (true,3) (.n (.n (.n .o 109 (true,3) .o) 110 (false,1) (.n .o 112 (false,1) .o)) 113 (false,1) (.n (.n .o 114 (false,1) .o) 115 (false,1) (.n .o 117 (false,1) .o))))) 118 (false,1) (.n (.n (.n (.n (.n (.n .o 119 (true,4) .o) 120 (true,4) .o) 121 (true,3) (.n .o 122 (true,3) .o)) 123 (true,3) (.n (.n .o 124 (true,3) .o) 125 (true,2) (.n .o 126 (true,2) .o))) 127 (false,1) (.n (.n (.n .o 128 (true,8) .o) 129 (true,8) (.n .o 130 (false,1) .o)) 131 (false,1) (.n (.n .o 132 (false,1) .o) 133 (false,1) (.n .o 134 (false,1) .o)))) 136 (false,1) (.n (.n (.n (.n (.n .o 137 (false,1) .o) 139 (false,1) .o) 140 (false,1) (.n .o 141 (false,1) .o)) 142 (true,17) (.n (.n .o 143 (true,17) .o) 144 (false,1) (.n .o 146 (false,1) .o))) 148 (false,1) (.n (.n (.n .o 149 (false,1) .o) 151 (false,1) (.n .o 152 (false,1) .o)) 153 (false,1) (.n (.n .o 154 (true,256) .o) 155 (true,256) (.n .o 157 (false,1) .o))))))) 158 (false,1) (.n (.n (.n (.n (.n (.n (.n (.n .o 159 (false,1) .o) 160 (false,1) .o) 161 (true,24) (.n .o 162 (false,1) .o)) 163 (false,1) (.n (.n .o 164 (false,1) .o) 166 (false,1) (.n .o 167 (false,1) .o))) 168 (false,1) (.n (.n (.n (.n .o 169 (false,1) .o) 170 (false,1) .o) 171 (false,1) (.n .o 172 (false,1) .o)) 173 (false,1) (.n (.n .o 174 (false,1) .o) 175 (false,1) (.n .o 176 (false,1) .o)))) 177 (false,1) (.n (.n (.n (.n (.n .o 178 (false,1) .o) 179 (false,1) .o) 180 (false,1) (.n .o 181 (false,1) .o)) 182 (false,1) (.n (.n .o 183 (false,1) .o) 184 (false,1) (.n .o 185 (false,1) .o))) 186 (false,1) (.n (.n (.n .o 187 (false,1) .o) 188 (false,1) (.n .o 190 (false,1) .o)) 191 (false,1) (.n (.n .o 192 (false,1) .o) 193 (false,1) (.n .o 194 (false,1) .o))))) 195 (true,20) (.n (.n (.n (.n (.n (.n .o 196 (false,1) .o) 197 (true,65) .o) 198 (false,1) (.n .o 199 (false,1) .o)) 200 (false,1) (.n (.n .o 201 (false,1) .o) 202 (false,1) (.n .o 203 (false,1) .o))) 204 (false,1) (.n (.n (.n .o 205 (false,1) .o) 206 (true,3) (.n .o 207 (true,3) .o)) 208 (false,1) (.n (.n .o 209 (false,1) .o) 210 (false,1) (.n .o 211 (false,1) .o)))) 212 (false,1) (.n (.n (.n (.n (.n .o 213 (false,1) .o) 214 (false,1) .o) 215 (false,1) (.n .o 216 (true,11) .o)) 217 (true,11) (.n (.n .o 218 (false,1) .o) 220 (false,1) (.n .o 221 (false,1) .o))) 222 (true,256) (.n (.n (.n .o 223 (true,2) .o) 224 (true,2) (.n .o 225 (true,32) .o)) 227 (false,1) (.n (.n .o 228 (false,1) .o) 230 (false,1) (.n .o 231 (true,3) .o)))))) 232 (true,3) (.n (.n (.n (.n (.n (.n (.n .o 233 (false,1) .o) 234 (false,1) .o) 235 (false,1) (.n .o 236 (false,1) .o)) 237 (false,1) (.n (.n .o 238 (false,1) .o) 239 (false,1) (.n .o 240 (false,1) .o))) 241 (false,1) (.n (.n (.n (.n .o 242 (false,1) .o) 243 (false,1) .o) 244 (false,1) (.n .o 245 (true,2) .o)) 246 (false,1) (.n (.n .o 247 (false,1) .o) 248 (false,1) (.n .o 249 (false,1) .o)))) 250 (false,1) (.n (.n (.n (.n (.n .o 251 (false,1) .o) 252 (false,1) .o) 253 (false,1) (.n .o 255 (false,1) .o)) 256 (false,1) (.n (.n .o 257 (false,1) .o) 258 (false,1) (.n .o 259 (false,1) .o))) 260 (false,1) (.n (.n (.n .o 261 (true,1) .o) 262 (true,1) (.n .o 263 (true,32) .o)) 264 (true,64) (.n (.n .o 265 (false,1) .o) 266 (false,1) (.n .o 267 (false,1) .o))))) 268 (false,1) (.n (.n (.n (.n (.n (.n .o 269 (false,1) .o) 270 (false,1) .o) 271 (false,1) (.n .o 272 (false,1) .o)) 273 (false,1) (.n (.n .o 274 (false,1) .o) 275 (false,1) (.n .o 276 (false,1) .o))) 277 (false,1) (.n (.n (.n .o 278 (false,1) .o) 279 (false,1) (.n .o 281 (false,1) .o)) 282 (false,1) (.n (.n .o 283 (false,1) .o) 284 (false,1) (.n .o 285 (false,1) .o)))) 286 (true,10) (.n (.n (.n (.n (.n .o 287 (false,1) .o) 288 (false,1) .o) 289 (false,1) (.n .o 290 (true,4) .o)) 291 (true,4) (.n (.n .o 292 (true,0) .o) 293 (true,0) (.n .o 294 (true,0) .o))) 295 (false,1) (.n (.n (.n .o 296 (false,1) .o) 297 (false,1) (.n .o 298 (false,1) .o)) 299 (false,1) (.n (.n .o 300 (false,1) .o) 301 (true,11) (.n .o 302 (true,11) .o))))))))
 st:=(.n (.n (.n (.n (.n .o 23 (56,7,56) .o) 34 (9,1,16) .o) 35 (120,4,40) (.n .o 36 (122,3,48) .o)) 37 (124,3,40) (.n (.n (.n .o 38 (129,8,152) .o) 39 (207,3,40) .o) 40 (109,3,24) (.n .o 41 (109,3,24) .o))) 44 (103,2,16) (.n (.n (.n (.n .o 45 (86,1,24) .o) 46 (107,11,128) .o) 54 (53,4,32) (.n .o 66 (5,1,1) .o)) 76 (78,1,8) (.n (.n (.n .o 86 (3,1,8) .o) 95 (4,1,1) .o) 127 (126,2,16) (.n .o 253 (105,7,72) .o))))
 fk:=by kernel_rfl
 kk:=by kernel_rfl
 sk:=by kernel_rfl
end Go.Proofs.YtfbfdnoodccgiaaGreatDoor
