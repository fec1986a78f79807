/- Merged texts of this proof (walks and plain laws), printed by a program of the prover. -/
import Derived.Test.YtkekjhcmephhjaaGreatDoorZb
import Derived.Test.YtkekjhcmephhjaaGreatDoorProg
import Derived.KernelRfl
namespace Go.Proofs.YtkekjhcmephhjaaGreatDoor
open Go.Proofs
theorem mixed:Tryz.prog.follows .mixedOrders=true:=by kernel_rfl
theorem tk3:tk Tryz.prog 3=some (false,1):=by kernel_rfl
theorem tk4:tk Tryz.prog 4=some (false,1):=by kernel_rfl
theorem tk9:tk Tryz.prog 9=some (false,1):=by kernel_rfl
theorem tk23:tk Tryz.prog 23=some (false,1):=by kernel_rfl
theorem tk24:tk Tryz.prog 24=some (false,1):=by kernel_rfl
theorem tk25:tk Tryz.prog 25=some (false,1):=by kernel_rfl
theorem tk26:tk Tryz.prog 26=some (false,1):=by kernel_rfl
theorem tk27:tk Tryz.prog 27=some (false,1):=by kernel_rfl
theorem tk28:tk Tryz.prog 28=some (false,1):=by kernel_rfl
theorem tk30:tk Tryz.prog 30=some (false,1):=by kernel_rfl
theorem tk32:tk Tryz.prog 32=some (true,8):=by kernel_rfl
theorem tk45:tk Tryz.prog 45=some (true,3):=by kernel_rfl
theorem tk50:tk Tryz.prog 50=some (true,3):=by kernel_rfl
theorem tk51:tk Tryz.prog 51=some (false,1):=by kernel_rfl
theorem tk61:tk Tryz.prog 61=some (false,1):=by kernel_rfl
theorem tk65:tk Tryz.prog 65=some (true,4):=by kernel_rfl
theorem tk67:tk Tryz.prog 67=some (true,3):=by kernel_rfl
theorem tk69:tk Tryz.prog 69=some (true,3):=by kernel_rfl
theorem tk71:tk Tryz.prog 71=some (false,1):=by kernel_rfl
theorem tk73:tk Tryz.prog 73=some (true,8):=by kernel_rfl
theorem tk75:tk Tryz.prog 75=some (true,2):=by kernel_rfl
theorem tk96:tk Tryz.prog 96=some (true,3):=by kernel_rfl
theorem zv3:zv Tryz.prog 3=some [.int .i64 0]:=by kernel_rfl
theorem zv4:zv Tryz.prog 4=some [.bool false]:=by kernel_rfl
theorem zv9:zv Tryz.prog 9=some [.string ⟨#[]⟩]:=by kernel_rfl
theorem zv32:zv Tryz.prog 32=some [.slice none 0 0,.slice none 0 0,.slice none 0 0,.slice none 0 0,.slice none 0 0,.slice none 0 0,.int .i64 0,.slice none 0 0]:=by kernel_rfl
theorem zv45:zv Tryz.prog 45=some [.slice none 0 0,.slice none 0 0,.slice none 0 0]:=by kernel_rfl
theorem zv50:zv Tryz.prog 50=some [.int .i64 0,.int .i64 0,.int .i64 0]:=by kernel_rfl
theorem zv51:zv Tryz.prog 51=some [.slice none 0 0]:=by kernel_rfl
theorem zv56:zv Tryz.prog 56=some [.slice none 0 0,.slice none 0 0,.slice none 0 0,.slice none 0 0,.slice none 0 0,.slice none 0 0,.int .i64 0,.slice none 0 0,.int .i64 0,.slice none 0 0]:=by kernel_rfl
theorem zv65:zv Tryz.prog 65=some [.string ⟨#[]⟩,.int .i64 0,.int .i64 0,.int .i64 0]:=by kernel_rfl
theorem zv67:zv Tryz.prog 67=some [.string ⟨#[]⟩,.int .i64 0,.slice none 0 0]:=by kernel_rfl
theorem zv69:zv Tryz.prog 69=some [.int .i64 0,.int .i64 0,.slice none 0 0]:=by kernel_rfl
theorem zv73:zv Tryz.prog 73=some [.string ⟨#[]⟩,.int .i64 0,.int .i64 0,.slice none 0 0,.slice none 0 0,.slice none 0 0,.slice none 0 0,.slice none 0 0]:=by kernel_rfl
theorem zv75:zv Tryz.prog 75=some [.int .i64 0,.int .i64 0]:=by kernel_rfl
theorem zv77:zv Tryz.prog 77=some [.slice none 0 0,.int .i64 0,.int .i64 0]:=by kernel_rfl
theorem zv96:zv Tryz.prog 96=some [.int .i64 0,.int .i64 0,.bool false]:=by kernel_rfl
theorem Jzm:zv Tryz.prog 113=some [.pointer none]:=by kernel_rfl
theorem Jz2:zv Tryz.prog 134=some [.nilFunc]:=by kernel_rfl
theorem J0a:zv Tryz.prog 146=some [.pointer none,.slice none 0 0,.bool false]:=by kernel_rfl
theorem Jzy:zv Tryz.prog 156=some [.slice none 0 0,.slice none 0 0,.slice none 0 0,.slice none 0 0,.slice none 0 0,.slice none 0 0,.int .i64 0,.slice none 0 0,.slice none 0 0,.slice none 0 0,.slice none 0 0]:=by kernel_rfl
theorem sl23:sl Tryz.prog 23=some (9,1,16):=by kernel_rfl
theorem sl24:sl Tryz.prog 24=some (65,4,40):=by kernel_rfl
theorem sl25:sl Tryz.prog 25=some (67,3,48):=by kernel_rfl
theorem sl26:sl Tryz.prog 26=some (69,3,40):=by kernel_rfl
theorem sl27:sl Tryz.prog 27=some (73,8,152):=by kernel_rfl
theorem sl28:sl Tryz.prog 28=some (77,3,40):=by kernel_rfl
theorem sl29:sl Tryz.prog 29=some (96,3,24):=by kernel_rfl
theorem sl30:sl Tryz.prog 30=some (96,3,24):=by kernel_rfl
theorem sl43:sl Tryz.prog 43=some (3,1,8):=by kernel_rfl
theorem sl51:sl Tryz.prog 51=some (50,3,24):=by kernel_rfl
theorem sl71:sl Tryz.prog 71=some (75,2,16):=by kernel_rfl
theorem Jif:plc Tryz.prog 32=some [(0,1),(1,1),(2,1),(3,1),(4,1),(5,1),(6,1),(7,1)]:=by kernel_rfl
theorem Jni:plc Tryz.prog 45=some [(0,1),(1,1),(2,1)]:=by kernel_rfl
theorem Jwd:plc Tryz.prog 50=some [(0,1),(1,1),(2,1)]:=by kernel_rfl
theorem Jz6:plc Tryz.prog 56=some [(0,8),(8,1),(9,1)]:=by kernel_rfl
theorem Jsl:plc Tryz.prog 65=some [(0,1),(1,1),(2,1),(3,1)]:=by kernel_rfl
theorem Jt9:plc Tryz.prog 67=some [(0,1),(1,1),(2,1)]:=by kernel_rfl
theorem Ju6:plc Tryz.prog 69=some [(0,1),(1,1),(2,1)]:=by kernel_rfl
theorem Jq2:plc Tryz.prog 73=some [(0,1),(1,1),(2,1),(3,1),(4,1),(5,1),(6,1),(7,1)]:=by kernel_rfl
theorem Jpl:plc Tryz.prog 75=some [(0,1),(1,1)]:=by kernel_rfl
theorem Jyv:plc Tryz.prog 77=some [(0,1),(1,2)]:=by kernel_rfl
theorem Jpm:plc Tryz.prog 96=some [(0,1),(1,1),(2,1)]:=by kernel_rfl
theorem Jxb:plc Tryz.prog 146=some [(0,1),(1,1),(2,1)]:=by kernel_rfl
theorem Jxy:plc Tryz.prog 156=some [(0,8),(8,3)]:=by kernel_rfl
theorem ent5:Ent Tryz.prog 5:=Jag Tryz.func5 (by kernel_rfl) rfl
theorem ent6:Ent Tryz.prog 6:=Jag Tryz.func6 (by kernel_rfl) rfl
theorem ent7:Ent Tryz.prog 7:=Jag Tryz.func7 (by kernel_rfl) rfl
theorem ent8:Ent Tryz.prog 8:=Jag Tryz.func8 (by kernel_rfl) rfl
theorem Jz0:Ent Tryz.prog 14:=Jag Tryz.func14 (by kernel_rfl) rfl
theorem Jzf:Ent Tryz.prog 15:=Jag Tryz.func15 (by kernel_rfl) rfl
theorem Jy7:Ent Tryz.prog 16:=Jag Tryz.func16 (by kernel_rfl) rfl
theorem Jy2:Ent Tryz.prog 17:=Jag Tryz.func17 (by kernel_rfl) rfl
theorem Jze:Ent Tryz.prog 18:=Jag Tryz.func18 (by kernel_rfl) rfl
theorem Jy9:Ent Tryz.prog 19:=Jag Tryz.func19 (by kernel_rfl) rfl
theorem Jvb:Ent Tryz.prog 20:=Jag Tryz.func20 (by kernel_rfl) rfl
theorem Jyp:Ent Tryz.prog 21:=Jag Tryz.func21 (by kernel_rfl) rfl
theorem Jzl:Ent Tryz.prog 22:=Jag Tryz.func22 (by kernel_rfl) rfl
theorem Jzw:Ent Tryz.prog 23:=Jag Tryz.func23 (by kernel_rfl) rfl
theorem Jj9:Ent Tryz.prog 24:=Jag Tryz.func24 (by kernel_rfl) rfl
theorem Jzx:Ent Tryz.prog 25:=Jag Tryz.func25 (by kernel_rfl) rfl
theorem Js0:Ent Tryz.prog 55:=Jag Tryz.func55 (by kernel_rfl) rfl
theorem Jst:Ent Tryz.prog 56:=Jag Tryz.func56 (by kernel_rfl) rfl
theorem Jx9:Ent Tryz.prog 57:=Jag Tryz.func57 (by kernel_rfl) rfl
theorem Jxe:Ent Tryz.prog 58:=Jag Tryz.func58 (by kernel_rfl) rfl
theorem Jzp:Ent Tryz.prog 59:=Jag Tryz.func59 (by kernel_rfl) rfl
theorem J0c:Ent Tryz.prog 60:=Jag Tryz.func60 (by kernel_rfl) rfl
theorem Jwg:Ent Tryz.prog 62:=Jag Tryz.func62 (by kernel_rfl) rfl
theorem Jzt:Ent Tryz.prog 63:=Jag Tryz.func63 (by kernel_rfl) rfl
theorem Jwk:Ent Tryz.prog 64:=Jag Tryz.func64 (by kernel_rfl) rfl
theorem Jis:Ent Tryz.prog 65:=Jag Tryz.func65 (by kernel_rfl) rfl
theorem Jc2:Ent Tryz.prog 66:=Jag Tryz.func66 (by kernel_rfl) rfl
theorem Jnq:Ent Tryz.prog 67:=Jag Tryz.func67 (by kernel_rfl) rfl
theorem Jgv:Ent Tryz.prog 68:=Jag Tryz.func68 (by kernel_rfl) rfl
theorem Jom:Ent Tryz.prog 69:=Jag Tryz.func69 (by kernel_rfl) rfl
theorem Jqg:Ent Tryz.prog 70:=Jag Tryz.func70 (by kernel_rfl) rfl
theorem Jsk:Ent Tryz.prog 71:=Jag Tryz.func71 (by kernel_rfl) rfl
theorem Juh:Ent Tryz.prog 72:=Jag Tryz.func72 (by kernel_rfl) rfl
theorem Jyd:Ent Tryz.prog 73:=Jag Tryz.func73 (by kernel_rfl) rfl
theorem Jvc:Ent Tryz.prog 74:=Jag Tryz.func74 (by kernel_rfl) rfl
theorem Jxq:Ent Tryz.prog 75:=Jag Tryz.func75 (by kernel_rfl) rfl
theorem Jrl:Ent Tryz.prog 76:=Jag Tryz.func76 (by kernel_rfl) rfl
theorem Jc5:Ent Tryz.prog 77:=Jag Tryz.func77 (by kernel_rfl) rfl
theorem Jzg:Ent Tryz.prog 78:=Jag Tryz.func78 (by kernel_rfl) rfl
theorem Jzr:Ent Tryz.prog 79:=Jag Tryz.func79 (by kernel_rfl) rfl
theorem Jzu:Ent Tryz.prog 80:=Jag Tryz.func80 (by kernel_rfl) rfl
theorem Jzn:Ent Tryz.prog 81:=Jag Tryz.func81 (by kernel_rfl) rfl
theorem Jzc:Ent Tryz.prog 82:=Jag Tryz.func82 (by kernel_rfl) rfl
theorem Jzb:Ent Tryz.prog 83:=Jag Tryz.func83 (by kernel_rfl) rfl
theorem Jp5:Ent Tryz.prog 84:=Jag Tryz.func84 (by kernel_rfl) rfl
theorem Jzs:Ent Tryz.prog 85:=Jag Tryz.func85 (by kernel_rfl) rfl
theorem Jsd:Ent Tryz.prog 86:=Jag Tryz.func86 (by kernel_rfl) rfl
theorem J0b:Ent Tryz.prog 87:=Jag Tryz.func87 (by kernel_rfl) rfl
theorem Jsa:Ent Tryz.prog 88:=Jag Tryz.func88 (by kernel_rfl) rfl
theorem Jne:Ent Tryz.prog 89:=Jag Tryz.func89 (by kernel_rfl) rfl
theorem Joe:Ent Tryz.prog 90:=Jag Tryz.func90 (by kernel_rfl) rfl
theorem Jpq:Ent Tryz.prog 91:=Jag Tryz.func91 (by kernel_rfl) rfl
theorem Jr6:Ent Tryz.prog 92:=Jag Tryz.func92 (by kernel_rfl) rfl
theorem Jmw:Ent Tryz.prog 93:=Jag Tryz.func93 (by kernel_rfl) rfl
theorem Jra:Ent Tryz.prog 94:=Jag Tryz.func94 (by kernel_rfl) rfl
theorem Juq:Ent Tryz.prog 95:=Jag Tryz.func95 (by kernel_rfl) rfl
theorem Jq1:Ent Tryz.prog 96:=Jag Tryz.func96 (by kernel_rfl) rfl
theorem Jr8:Ent Tryz.prog 97:=Jag Tryz.func97 (by kernel_rfl) rfl
theorem Jq3:Ent Tryz.prog 98:=Jag Tryz.func98 (by kernel_rfl) rfl
theorem Jul:Ent Tryz.prog 99:=Jag Tryz.func99 (by kernel_rfl) rfl
theorem Jjn:Ent Tryz.prog 100:=Jag Tryz.func100 (by kernel_rfl) rfl
theorem Jfn:Ent Tryz.prog 101:=Jag Tryz.func101 (by kernel_rfl) rfl
theorem Jjv:Ent Tryz.prog 102:=Jag Tryz.func102 (by kernel_rfl) rfl
theorem Jxc:Ent Tryz.prog 103:=Jag Tryz.func103 (by kernel_rfl) rfl
theorem Jpp:Ent Tryz.prog 104:=Jag Tryz.func104 (by kernel_rfl) rfl
theorem Jqb:Ent Tryz.prog 105:=Jag Tryz.func105 (by kernel_rfl) rfl
theorem Jpk:Ent Tryz.prog 110:=Jag Tryz.func110 (by kernel_rfl) rfl
theorem Jyw:Ent Tryz.prog 111:=Jag Tryz.func111 (by kernel_rfl) rfl
theorem Jjw:Ent Tryz.prog 112:=Jag Tryz.func112 (by kernel_rfl) rfl
theorem Jjx:Ent Tryz.prog 113:=Jag Tryz.func113 (by kernel_rfl) rfl
theorem Joi:Ent Tryz.prog 114:=Jag Tryz.func114 (by kernel_rfl) rfl
theorem Jpg:Ent Tryz.prog 115:=Jag Tryz.func115 (by kernel_rfl) rfl
theorem Jyq:Ent Tryz.prog 116:=Jag Tryz.func116 (by kernel_rfl) rfl
theorem Jjd:Ent Tryz.prog 117:=Jag Tryz.func117 (by kernel_rfl) rfl
theorem Jtp:Ent Tryz.prog 118:=Jag Tryz.func118 (by kernel_rfl) rfl
theorem Jwv:Ent Tryz.prog 119:=Jag Tryz.func119 (by kernel_rfl) rfl
theorem Jg4:Ent Tryz.prog 122:=Jag Tryz.func122 (by kernel_rfl) rfl
theorem Jwe:Ent Tryz.prog 123:=Jag Tryz.func123 (by kernel_rfl) rfl
theorem Jv7:Ent Tryz.prog 124:=Jag Tryz.func124 (by kernel_rfl) rfl
theorem Jxt:Ent Tryz.prog 125:=Jag Tryz.func125 (by kernel_rfl) rfl
theorem Jof:Ent Tryz.prog 126:=Jag Tryz.func126 (by kernel_rfl) rfl
theorem Jyj:Ent Tryz.prog 127:=Jag Tryz.func127 (by kernel_rfl) rfl
theorem Jwp:Ent Tryz.prog 128:=Jag Tryz.func128 (by kernel_rfl) rfl
theorem Jtw:Ent Tryz.prog 129:=Jag Tryz.func129 (by kernel_rfl) rfl
theorem Jt8:Ent Tryz.prog 130:=Jag Tryz.func130 (by kernel_rfl) rfl
theorem Jtn:Ent Tryz.prog 131:=Jag Tryz.func131 (by kernel_rfl) rfl
theorem Jx2:Ent Tryz.prog 132:=Jag Tryz.func132 (by kernel_rfl) rfl
theorem Jtm:Ent Tryz.prog 133:=Jag Tryz.func133 (by kernel_rfl) rfl
theorem Jyt:Ent Tryz.prog 134:=Jag Tryz.func134 (by kernel_rfl) rfl
theorem Jxh:Ent Tryz.prog 135:=Jag Tryz.func135 (by kernel_rfl) rfl
theorem Jor:Ent Tryz.prog 136:=Jag Tryz.func136 (by kernel_rfl) rfl
theorem Jt0:Ent Tryz.prog 137:=Jag Tryz.func137 (by kernel_rfl) rfl
theorem Jwi:Ent Tryz.prog 138:=Jag Tryz.func138 (by kernel_rfl) rfl
theorem Jv8:Ent Tryz.prog 139:=Jag Tryz.func139 (by kernel_rfl) rfl
theorem Jyl:Ent Tryz.prog 140:=Jag Tryz.func140 (by kernel_rfl) rfl
theorem Jyy:Ent Tryz.prog 141:=Jag Tryz.func141 (by kernel_rfl) rfl
theorem Jmb:Ent Tryz.prog 142:=Jag Tryz.func142 (by kernel_rfl) rfl
theorem Jtj:Ent Tryz.prog 143:=Jag Tryz.func143 (by kernel_rfl) rfl
theorem Jxu:Ent Tryz.prog 144:=Jag Tryz.func144 (by kernel_rfl) rfl
theorem Jw1:Ent Tryz.prog 145:=Jag Tryz.func145 (by kernel_rfl) rfl
theorem Jox:Ent Tryz.prog 146:=Jag Tryz.func146 (by kernel_rfl) rfl
theorem Jt5:Ent Tryz.prog 147:=Jag Tryz.func147 (by kernel_rfl) rfl
theorem Jw2:Ent Tryz.prog 151:=Jag Tryz.func151 (by kernel_rfl) rfl
theorem Jxr:Ent Tryz.prog 152:=Jag Tryz.func152 (by kernel_rfl) rfl
theorem Jxi:Ent Tryz.prog 153:=Jag Tryz.func153 (by kernel_rfl) rfl
theorem Jy1:Ent Tryz.prog 154:=Jag Tryz.func154 (by kernel_rfl) rfl
theorem Jyg:Ent Tryz.prog 171:=Jag Tryz.func171 (by kernel_rfl) rfl
theorem Jwh:Ent Tryz.prog 172:=Jag Tryz.func172 (by kernel_rfl) rfl
theorem Jxg:Ent Tryz.prog 174:=Jag Tryz.func174 (by kernel_rfl) rfl
theorem Jwm:Ent Tryz.prog 175:=Jag Tryz.func175 (by kernel_rfl) rfl
theorem Jwf:Ent Tryz.prog 176:=Jag Tryz.func176 (by kernel_rfl) rfl
theorem Jyr:Ent Tryz.prog 177:=Jag Tryz.func177 (by kernel_rfl) rfl
theorem Jx0:Ent Tryz.prog 178:=Jag Tryz.func178 (by kernel_rfl) rfl
theorem Jxv:Ent Tryz.prog 179:=Jag Tryz.func179 (by kernel_rfl) rfl
theorem Jyo:Ent Tryz.prog 180:=Jag Tryz.func180 (by kernel_rfl) rfl
theorem Jw3:Ent Tryz.prog 181:=Jag Tryz.func181 (by kernel_rfl) rfl
theorem Jym:Ent Tryz.prog 182:=Jag Tryz.func182 (by kernel_rfl) rfl
theorem Jw4:Ent Tryz.prog 183:=Jag Tryz.func183 (by kernel_rfl) rfl
theorem Jye:Ent Tryz.prog 184:=Jag Tryz.func184 (by kernel_rfl) rfl
theorem Jxo:Ent Tryz.prog 185:=Jag Tryz.func185 (by kernel_rfl) rfl
theorem Jxf:Ent Tryz.prog 203:=Jag Tryz.func203 (by kernel_rfl) rfl
theorem Jtu:Ent Tryz.prog 204:=Jag Tryz.func204 (by kernel_rfl) rfl
theorem Jw0:Ent Tryz.prog 205:=Jag Tryz.func205 (by kernel_rfl) rfl
theorem Jys:Ent Tryz.prog 206:=Jag Tryz.func206 (by kernel_rfl) rfl
instance:Fx Tryz.prog where
 ft:=(.n (.n (.n (.n (.n (.n .o 7 [0,1,2,3] .o) 8 [0,1,2,3] .o) 13 [0,1] (.n (.n .o 14 [0,1] .o) 18 [0] .o)) 19 [0] (.n (.n (.n .o 31 [0,1,2,3,4,5,6,7] .o) 32 [0,1,2,3,4,5,6,7] .o) 44 [0,1,2] (.n (.n .o 45 [0,1,2] .o) 49 [0,1,2] .o))) 50 [0,1,2] (.n (.n (.n (.n .o 55 [0,8,9] .o) 56 [0,8,9] .o) 64 [0,1,2,3] (.n (.n .o 65 [0,1,2,3] .o) 66 [0,1,2] .o)) 67 [0,1,2] (.n (.n (.n .o 68 [0,1,2] .o) 69 [0,1,2] .o) 72 [0,1,2,3,4,5,6,7] (.n (.n .o 73 [0,1,2,3,4,5,6,7] .o) 74 [0,1] .o)))) 75 [0,1] (.n (.n (.n (.n (.n .o 76 [0,1] .o) 77 [0,1] .o) 80 [0,1] (.n (.n .o 81 [0,1] .o) 95 [0,1,2] .o)) 96 [0,1,2] (.n (.n (.n .o 121 [] .o) 122 [] .o) 145 [0,1,2] (.n (.n .o 146 [0,1,2] .o) 155 [0,8] .o))) 156 [0,8] (.n (.n (.n (.n .o 236 [0,1,2] .o) 237 [0,1,2] .o) 241 [0,1] (.n (.n .o 242 [0,1] .o) 246 [0] .o)) 247 [0] (.n (.n (.n .o 250 [0,1,2,3] .o) 251 [0,1,2,3] .o) 260 [0,1,2,3,4,5,6,7,8,9,10] (.n .o 261 [0,1,2,3,4,5,6,7,8,9,10] .o)))))
 kt:=(.n (.n (.n (.n (.n (.n (.n (.n .o 1 (false,1) .o) 2 (false,1) (.n .o 3 (false,1) .o)) 4 (false,1) (.n (.n .o 5 (false,1) .o) 6 (false,1) (.n .o 7 (true,4) .o))) 8 (true,4) (.n (.n (.n .o 9 (false,1) .o) 10 (false,1) (.n .o 11 (false,1) .o)) 12 (false,1) (.n (.n .o 13 (true,2) .o) 14 (true,2) (.n .o 15 (false,1) .o)))) 16 (false,1) (.n (.n (.n (.n .o 17 (false,1) .o) 18 (true,1) (.n .o 19 (true,1) .o)) 21 (false,1) (.n (.n .o 22 (false,1) .o) 23 (false,1) (.n .o 24 (false,1) .o))) 25 (false,1) (.n (.n (.n .o 26 (false,1) .o) 27 (false,1) (.n .o 28 (false,1) .o)) 29 (false,1) (.n (.n .o 30 (false,1) .o) 31 (true,8) .o)))) 32 (true,8) (.n (.n (.n (.n (.n .o 33 (false,1) .o) 35 (false,1) (.n .o 36 (false,1) .o)) 37 (false,1) (.n (.n .o 38 (false,1) .o) 40 (false,1) (.n .o 41 (false,1) .o))) 42 (false,1) (.n (.n (.n .o 43 (false,1) .o) 44 (true,3) (.n .o 45 (true,3) .o)) 47 (false,1) (.n (.n .o 48 (false,1) .o) 49 (true,3) .o))) 50 (true,3) (.n (.n (.n (.n .o 51 (false,1) .o) 53 (false,1) (.n .o 54 (false,1) .o)) 55 (true,10) (.n (.n .o 56 (true,10) .o) 58 (false,1) (.n .o 59 (false,1) .o))) 60 (false,1) (.n (.n (.n .o 61 (false,1) .o) 62 (false,1) (.n .o 63 (false,1) .o)) 64 (true,4) (.n (.n .o 65 (true,4) .o) 66 (true,3) .o))))) 67 (true,3) (.n (.n (.n (.n (.n (.n .o 68 (true,3) .o) 69 (true,3) (.n .o 70 (false,1) .o)) 71 (false,1) (.n (.n .o 72 (true,8) .o) 73 (true,8) (.n .o 74 (true,2) .o))) 75 (true,2) (.n (.n (.n .o 76 (true,3) .o) 77 (true,3) (.n .o 78 (false,1) .o)) 79 (false,1) (.n (.n .o 80 (true,2) .o) 81 (true,2) (.n .o 82 (false,1) .o)))) 86 (false,1) (.n (.n (.n (.n .o 87 (false,1) .o) 88 (false,1) (.n .o 89 (false,1) .o)) 90 (false,1) (.n (.n .o 91 (false,1) .o) 92 (false,1) (.n .o 93 (false,1) .o))) 94 (false,1) (.n (.n (.n .o 95 (true,3) .o) 96 (true,3) (.n .o 97 (false,1) .o)) 98 (false,1) (.n (.n .o 99 (false,1) .o) 100 (false,1) .o)))) 101 (false,1) (.n (.n (.n (.n (.n .o 102 (false,1) .o) 103 (false,1) (.n .o 104 (false,1) .o)) 105 (false,1) (.n (.n .o 106 (false,1) .o) 107 (false,1) (.n .o 108 (false,1) .o))) 109 (false,1) (.n (.n (.n .o 110 (false,1) .o) 111 (false,1) (.n .o 112 (false,1) .o)) 113 (false,1) (.n (.n .o 114 (false,1) .o) 115 (false,1) .o))) 116 (false,1) (.n (.n (.n (.n .o 117 (false,1) .o) 118 (false,1) (.n .o 119 (false,1) .o)) 120 (false,1) (.n (.n .o 121 (true,0) .o) 122 (true,0) (.n .o 124 (false,1) .o))) 125 (false,1) (.n (.n (.n .o 126 (false,1) .o) 127 (false,1) (.n .o 128 (false,1) .o)) 129 (false,1) (.n (.n .o 130 (false,1) .o) 131 (false,1) .o)))))) 132 (false,1) (.n (.n (.n (.n (.n (.n (.n .o 133 (false,1) .o) 134 (false,1) (.n .o 135 (false,1) .o)) 136 (false,1) (.n (.n .o 137 (false,1) .o) 138 (false,1) (.n .o 139 (false,1) .o))) 140 (false,1) (.n (.n (.n .o 141 (false,1) .o) 142 (false,1) (.n .o 143 (false,1) .o)) 144 (false,1) (.n (.n .o 145 (true,3) .o) 146 (true,3) (.n .o 147 (false,1) .o)))) 148 (false,1) (.n (.n (.n (.n .o 149 (false,1) .o) 150 (false,1) (.n .o 151 (false,1) .o)) 152 (false,1) (.n (.n .o 153 (false,1) .o) 154 (false,1) (.n .o 155 (true,11) .o))) 156 (true,11) (.n (.n (.n .o 157 (false,1) .o) 158 (false,1) (.n .o 159 (false,1) .o)) 160 (false,1) (.n (.n .o 161 (false,1) .o) 162 (false,1) .o)))) 163 (false,1) (.n (.n (.n (.n (.n .o 164 (false,1) .o) 165 (false,1) (.n .o 166 (false,1) .o)) 167 (false,1) (.n (.n .o 168 (false,1) .o) 169 (false,1) (.n .o 170 (false,1) .o))) 171 (false,1) (.n (.n (.n .o 172 (false,1) .o) 173 (false,1) (.n .o 174 (false,1) .o)) 175 (false,1) (.n (.n .o 176 (false,1) .o) 178 (false,1) .o))) 180 (false,1) (.n (.n (.n (.n .o 181 (false,1) .o) 182 (false,1) (.n .o 183 (false,1) .o)) 184 (false,1) (.n (.n .o 185 (false,1) .o) 186 (false,1) (.n .o 187 (false,1) .o))) 188 (false,1) (.n (.n (.n .o 189 (true,256) .o) 190 (true,256) (.n .o 192 (false,1) .o)) 193 (false,1) (.n (.n .o 194 (false,1) .o) 195 (false,1) .o))))) 196 (false,1) (.n (.n (.n (.n (.n (.n .o 197 (false,1) .o) 198 (false,1) (.n .o 199 (false,1) .o)) 200 (false,1) (.n (.n .o 201 (false,1) .o) 202 (false,1) (.n .o 203 (false,1) .o))) 204 (false,1) (.n (.n (.n .o 205 (false,1) .o) 206 (false,1) (.n .o 207 (false,1) .o)) 208 (false,1) (.n (.n .o 209 (true,24) .o) 210 (false,1) (.n .o 211 (false,1) .o)))) 212 (false,1) (.n (.n (.n (.n .o 214 (false,1) .o) 215 (false,1) (.n .o 217 (false,1) .o)) 219 (false,1) (.n (.n .o 220 (false,1) .o) 221 (false,1) (.n .o 223 (false,1) .o))) 224 (false,1) (.n (.n (.n .o 225 (false,1) .o) 226 (false,1) (.n .o 227 (false,1) .o)) 228 (false,1) (.n (.n .o 229 (false,1) .o) 230 (false,1) .o)))) 231 (true,20) (.n (.n (.n (.n (.n .o 232 (true,65) .o) 233 (false,1) (.n .o 235 (false,1) .o)) 236 (true,3) (.n (.n .o 237 (true,3) .o) 238 (false,1) (.n .o 239 (false,1) .o))) 240 (true,256) (.n (.n (.n .o 241 (true,2) .o) 242 (true,2) (.n .o 243 (true,32) .o)) 244 (false,1) (.n (.n .o 245 (false,1) .o) 246 (true,1) .o))) 247 (true,1) (.n (.n (.n (.n .o 248 (true,32) .o) 249 (true,64) (.n .o 250 (true,4) .o)) 251 (true,4) (.n (.n .o 252 (true,0) .o) 253 (true,0) (.n .o 254 (true,0) .o))) 255 (false,1) (.n (.n (.n .o 256 (false,1) .o) 257 (false,1) (.n .o 258 (false,1) .o)) 259 (false,1) (.n (.n .o 260 (true,11) .o) 261 (true,11) .o)))))))
 st:=(.n (.n (.n (.n .o 23 (9,1,16) .o) 24 (65,4,40) (.n .o 25 (67,3,48) .o)) 26 (69,3,40) (.n (.n .o 27 (73,8,152) .o) 28 (77,3,40) .o)) 29 (96,3,24) (.n (.n (.n .o 30 (96,3,24) .o) 43 (3,1,8) (.n .o 51 (50,3,24) .o)) 71 (75,2,16) (.n (.n .o 79 (5,1,1) .o) 82 (23,1,24) .o)))
 fk:=by kernel_rfl
 kk:=by kernel_rfl
 sk:=by kernel_rfl
end Go.Proofs.YtkekjhcmephhjaaGreatDoor
