/- Merged texts of this proof (walks and plain laws), printed by a program of the prover. -/
import Derived.Test.YtfbfdnoodccgiaaGreatDoorZb
import Derived.Test.YtfbfdnoodccgiaaGreatDoorProg
import Derived.KernelRfl
namespace Go.Proofs.YtfbfdnoodccgiaaGreatDoor
open Go.Proofs
theorem mixed:Tryz.prog.follows .mixedOrders=true:=by kernel_rfl
theorem tk3:tk Tryz.prog 3=some (false,1):=by kernel_rfl
theorem tk4:tk Tryz.prog 4=some (false,1):=by kernel_rfl
theorem tk9:tk Tryz.prog 9=some (false,1):=by kernel_rfl
theorem tk34:tk Tryz.prog 34=some (false,1):=by kernel_rfl
theorem tk43:tk Tryz.prog 43=some (true,8):=by kernel_rfl
theorem tk48:tk Tryz.prog 48=some (true,12):=by kernel_rfl
theorem tk51:tk Tryz.prog 51=some (true,3):=by kernel_rfl
theorem tk56:tk Tryz.prog 56=some (true,7):=by kernel_rfl
theorem tk78:tk Tryz.prog 78=some (false,1):=by kernel_rfl
theorem tk86:tk Tryz.prog 86=some (false,1):=by kernel_rfl
theorem tk94:tk Tryz.prog 94=some (true,3):=by kernel_rfl
theorem tk97:tk Tryz.prog 97=some (true,4):=by kernel_rfl
theorem J28:tk Tryz.prog 105=some (true,7):=by kernel_rfl
theorem J3e:tk Tryz.prog 246=some (false,1):=by kernel_rfl
theorem zv3:zv Tryz.prog 3=some [.int .i64 0]:=by kernel_rfl
theorem zv4:zv Tryz.prog 4=some [.bool false]:=by kernel_rfl
theorem zv9:zv Tryz.prog 9=some [.string ⟨#[]⟩]:=by kernel_rfl
theorem zv43:zv Tryz.prog 43=some [.slice none 0 0,.slice none 0 0,.slice none 0 0,.slice none 0 0,.slice none 0 0,.slice none 0 0,.int .i64 0,.slice none 0 0]:=by kernel_rfl
theorem zv48:zv Tryz.prog 48=some [.slice none 0 0,.slice none 0 0,.slice none 0 0,.slice none 0 0,.slice none 0 0,.slice none 0 0,.int .i64 0,.slice none 0 0,.slice none 0 0,.slice none 0 0,.slice none 0 0,.int .i64 0]:=by kernel_rfl
theorem zv51:zv Tryz.prog 51=some [.int .i64 0,.int .i64 0,.int .i64 0]:=by kernel_rfl
theorem zv53:zv Tryz.prog 53=some (List.replicate 4 (.int .i64 0)):=by kernel_rfl
theorem zv56:zv Tryz.prog 56=some (List.replicate 7 (.int .i64 0)):=by kernel_rfl
theorem zv71:zv Tryz.prog 71=some [.string ⟨#[]⟩,.nilFunc]:=by kernel_rfl
theorem zv86:zv Tryz.prog 86=some [.slice none 0 0]:=by kernel_rfl
theorem zv94:zv Tryz.prog 94=some [.slice none 0 0,.slice none 0 0,.slice none 0 0]:=by kernel_rfl
theorem zv97:zv Tryz.prog 97=some (List.replicate 4 (.slice none 0 0)):=by kernel_rfl
theorem zv99:zv Tryz.prog 99=some [.slice none 0 0,.slice none 0 0,.slice none 0 0,.slice none 0 0,.slice none 0 0,.slice none 0 0,.int .i64 0,.slice none 0 0,.slice none 0 0,.slice none 0 0,.slice none 0 0,.int .i64 0,.slice none 0 0,.slice none 0 0,.slice none 0 0,.slice none 0 0,.bool false,.int .i64 0,.int .i64 0,.int .i64 0,.int .i64 0]:=by kernel_rfl
theorem Ju7:zv Tryz.prog 103=some [.int .i64 0,.int .i64 0]:=by kernel_rfl
theorem Jpa:zv Tryz.prog 105=some [.int .i64 0,.int .i64 0,.int .i64 0,.int .i64 0,.int .i64 0,.slice none 0 0,.bool false]:=by kernel_rfl
theorem Jlc:zv Tryz.prog 107=some [.string ⟨#[]⟩,.int .i64 0,.int .i64 0,.slice none 0 0,.int .i64 0,.int .i64 0,.int .i64 0,.int .i64 0,.int .i64 0,.slice none 0 0,.bool false]:=by kernel_rfl
theorem Jn7:zv Tryz.prog 109=some [.int .i64 0,.int .i64 0,.bool false]:=by kernel_rfl
theorem Jpp:zv Tryz.prog 120=some [.string ⟨#[]⟩,.int .i64 0,.int .i64 0,.int .i64 0]:=by kernel_rfl
theorem Jt6:zv Tryz.prog 122=some [.string ⟨#[]⟩,.int .i64 0,.slice none 0 0]:=by kernel_rfl
theorem Jqk:zv Tryz.prog 124=some [.int .i64 0,.int .i64 0,.slice none 0 0]:=by kernel_rfl
theorem Jok:zv Tryz.prog 126=some [.int .i64 0,.int .i64 0]:=by kernel_rfl
theorem Jlt:zv Tryz.prog 129=some [.string ⟨#[]⟩,.int .i64 0,.int .i64 0,.slice none 0 0,.slice none 0 0,.slice none 0 0,.slice none 0 0,.slice none 0 0]:=by kernel_rfl
theorem Jtc:zv Tryz.prog 143=some [.slice none 0 0,.slice none 0 0,.slice none 0 0,.slice none 0 0,.slice none 0 0,.slice none 0 0,.int .i64 0,.slice none 0 0,.slice none 0 0,.slice none 0 0,.slice none 0 0,.int .i64 0,.slice none 0 0,.slice none 0 0,.slice none 0 0,.slice none 0 0,.map none]:=by kernel_rfl
theorem J3g:zv Tryz.prog 182=some [.nilFunc]:=by kernel_rfl
theorem J3a:zv Tryz.prog 207=some [.slice none 0 0,.int .i64 0,.int .i64 0]:=by kernel_rfl
theorem J38:zv Tryz.prog 217=some [.slice none 0 0,.slice none 0 0,.slice none 0 0,.slice none 0 0,.slice none 0 0,.slice none 0 0,.int .i64 0,.slice none 0 0,.slice none 0 0,.slice none 0 0,.slice none 0 0]:=by kernel_rfl
theorem J2l:zv Tryz.prog 286=some (List.replicate 10 (.int .i64 0)):=by kernel_rfl
theorem sl23:sl Tryz.prog 23=some (56,7,56):=by kernel_rfl
theorem sl34:sl Tryz.prog 34=some (9,1,16):=by kernel_rfl
theorem sl35:sl Tryz.prog 35=some (120,4,40):=by kernel_rfl
theorem sl36:sl Tryz.prog 36=some (122,3,48):=by kernel_rfl
theorem sl37:sl Tryz.prog 37=some (124,3,40):=by kernel_rfl
theorem sl38:sl Tryz.prog 38=some (129,8,152):=by kernel_rfl
theorem sl41:sl Tryz.prog 41=some (109,3,24):=by kernel_rfl
theorem sl44:sl Tryz.prog 44=some (103,2,16):=by kernel_rfl
theorem sl45:sl Tryz.prog 45=some (86,1,24):=by kernel_rfl
theorem sl46:sl Tryz.prog 46=some (107,11,128):=by kernel_rfl
theorem sl54:sl Tryz.prog 54=some (53,4,32):=by kernel_rfl
theorem sl76:sl Tryz.prog 76=some (78,1,8):=by kernel_rfl
theorem sl86:sl Tryz.prog 86=some (3,1,8):=by kernel_rfl
theorem sl95:sl Tryz.prog 95=some (4,1,1):=by kernel_rfl
theorem Jxn:sl Tryz.prog 127=some (126,2,16):=by kernel_rfl
theorem Jso:sl Tryz.prog 253=some (105,7,72):=by kernel_rfl
theorem Jd5:arr Tryz.prog 286=some (10,1):=by kernel_rfl
theorem J32:plc Tryz.prog 43=some [(0,1),(1,1),(2,1),(3,1),(4,1),(5,1),(6,1),(7,1)]:=by kernel_rfl
theorem J4f:plc Tryz.prog 48=some [(0,8),(8,1),(9,1),(10,1),(11,1)]:=by kernel_rfl
theorem J1l:plc Tryz.prog 51=some [(0,1),(1,1),(2,1)]:=by kernel_rfl
theorem J3i:plc Tryz.prog 53=some [(0,1),(1,3)]:=by kernel_rfl
theorem Jjb:plc Tryz.prog 56=some [(0,1),(1,1),(2,3),(5,1),(6,1)]:=by kernel_rfl
theorem Jg6:plc Tryz.prog 94=some [(0,1),(1,1),(2,1)]:=by kernel_rfl
theorem Jfv:plc Tryz.prog 97=some [(0,3),(3,1)]:=by kernel_rfl
theorem J4k:plc Tryz.prog 99=some [(0,12),(12,4),(16,1),(17,1),(18,1),(19,1),(20,1)]:=by kernel_rfl
theorem J0i:plc Tryz.prog 103=some [(0,1),(1,1)]:=by kernel_rfl
theorem Js0:plc Tryz.prog 105=some [(0,1),(1,1),(2,1),(3,1),(4,1),(5,1),(6,1)]:=by kernel_rfl
theorem Jqe:plc Tryz.prog 107=some [(0,1),(1,1),(2,1),(3,1),(4,7)]:=by kernel_rfl
theorem Jqz:plc Tryz.prog 109=some [(0,1),(1,1),(2,1)]:=by kernel_rfl
theorem Jwa:plc Tryz.prog 120=some [(0,1),(1,1),(2,1),(3,1)]:=by kernel_rfl
theorem J2c:plc Tryz.prog 122=some [(0,1),(1,1),(2,1)]:=by kernel_rfl
theorem J2z:plc Tryz.prog 124=some [(0,1),(1,1),(2,1)]:=by kernel_rfl
theorem Jwx:plc Tryz.prog 126=some [(0,1),(1,1)]:=by kernel_rfl
theorem Jwn:plc Tryz.prog 129=some [(0,1),(1,1),(2,1),(3,1),(4,1),(5,1),(6,1),(7,1)]:=by kernel_rfl
theorem Jnc:plc Tryz.prog 143=some [(0,12),(12,4),(16,1)]:=by kernel_rfl
theorem J0t:plc Tryz.prog 217=some [(0,8),(8,3)]:=by kernel_rfl
theorem ent5:Ent Tryz.prog 5:=Jac Tryz.func5 (by kernel_rfl) rfl
theorem ent6:Ent Tryz.prog 6:=Jac Tryz.func6 (by kernel_rfl) rfl
theorem ent7:Ent Tryz.prog 7:=Jac Tryz.func7 (by kernel_rfl) rfl
theorem ent8:Ent Tryz.prog 8:=Jac Tryz.func8 (by kernel_rfl) rfl
theorem J3c:Ent Tryz.prog 12:=Jac Tryz.func12 (by kernel_rfl) rfl
theorem J39:Ent Tryz.prog 13:=Jac Tryz.func13 (by kernel_rfl) rfl
theorem J3n:Ent Tryz.prog 14:=Jac Tryz.func14 (by kernel_rfl) rfl
theorem J4j:Ent Tryz.prog 15:=Jac Tryz.func15 (by kernel_rfl) rfl
theorem J4c:Ent Tryz.prog 16:=Jac Tryz.func16 (by kernel_rfl) rfl
theorem J4e:Ent Tryz.prog 17:=Jac Tryz.func17 (by kernel_rfl) rfl
theorem Jzy:Ent Tryz.prog 18:=Jac Tryz.func18 (by kernel_rfl) rfl
theorem J3u:Ent Tryz.prog 19:=Jac Tryz.func19 (by kernel_rfl) rfl
theorem J3s:Ent Tryz.prog 20:=Jac Tryz.func20 (by kernel_rfl) rfl
theorem J0c:Ent Tryz.prog 21:=Jac Tryz.func21 (by kernel_rfl) rfl
theorem J05:Ent Tryz.prog 30:=Jac Tryz.func30 (by kernel_rfl) rfl
theorem Je5:Ent Tryz.prog 31:=Jac Tryz.func31 (by kernel_rfl) rfl
theorem J3k:Ent Tryz.prog 32:=Jac Tryz.func32 (by kernel_rfl) rfl
theorem J3l:Ent Tryz.prog 33:=Jac Tryz.func33 (by kernel_rfl) rfl
theorem J37:Ent Tryz.prog 34:=Jac Tryz.func34 (by kernel_rfl) rfl
theorem J3w:Ent Tryz.prog 36:=Jac Tryz.func36 (by kernel_rfl) rfl
theorem J0a:Ent Tryz.prog 37:=Jac Tryz.func37 (by kernel_rfl) rfl
theorem J3o:Ent Tryz.prog 38:=Jac Tryz.func38 (by kernel_rfl) rfl
theorem J2a:Ent Tryz.prog 43:=Jac Tryz.func43 (by kernel_rfl) rfl
theorem J3q:Ent Tryz.prog 44:=Jac Tryz.func44 (by kernel_rfl) rfl
theorem J0q:Ent Tryz.prog 45:=Jac Tryz.func45 (by kernel_rfl) rfl
theorem J33:Ent Tryz.prog 50:=Jac Tryz.func50 (by kernel_rfl) rfl
theorem J4g:Ent Tryz.prog 51:=Jac Tryz.func51 (by kernel_rfl) rfl
theorem J1e:Ent Tryz.prog 55:=Jac Tryz.func55 (by kernel_rfl) rfl
theorem J3p:Ent Tryz.prog 56:=Jac Tryz.func56 (by kernel_rfl) rfl
theorem Jfw:Ent Tryz.prog 57:=Jac Tryz.func57 (by kernel_rfl) rfl
theorem Jxm:Ent Tryz.prog 58:=Jac Tryz.func58 (by kernel_rfl) rfl
theorem J3r:Ent Tryz.prog 59:=Jac Tryz.func59 (by kernel_rfl) rfl
theorem J1m:Ent Tryz.prog 60:=Jac Tryz.func60 (by kernel_rfl) rfl
theorem J3z:Ent Tryz.prog 61:=Jac Tryz.func61 (by kernel_rfl) rfl
theorem Jxz:Ent Tryz.prog 80:=Jac Tryz.func80 (by kernel_rfl) rfl
theorem Jv4:Ent Tryz.prog 81:=Jac Tryz.func81 (by kernel_rfl) rfl
theorem J22:Ent Tryz.prog 82:=Jac Tryz.func82 (by kernel_rfl) rfl
theorem J4l:Ent Tryz.prog 83:=Jac Tryz.func83 (by kernel_rfl) rfl
theorem J3j:Ent Tryz.prog 84:=Jac Tryz.func84 (by kernel_rfl) rfl
theorem Jkx:Ent Tryz.prog 85:=Jac Tryz.func85 (by kernel_rfl) rfl
theorem Jq3:Ent Tryz.prog 86:=Jac Tryz.func86 (by kernel_rfl) rfl
theorem Juj:Ent Tryz.prog 87:=Jac Tryz.func87 (by kernel_rfl) rfl
theorem J3b:Ent Tryz.prog 88:=Jac Tryz.func88 (by kernel_rfl) rfl
theorem J2d:Ent Tryz.prog 89:=Jac Tryz.func89 (by kernel_rfl) rfl
theorem Jn2:Ent Tryz.prog 90:=Jac Tryz.func90 (by kernel_rfl) rfl
theorem Juy:Ent Tryz.prog 91:=Jac Tryz.func91 (by kernel_rfl) rfl
theorem Jlo:Ent Tryz.prog 92:=Jac Tryz.func92 (by kernel_rfl) rfl
theorem Jzb:Ent Tryz.prog 93:=Jac Tryz.func93 (by kernel_rfl) rfl
theorem J36:Ent Tryz.prog 94:=Jac Tryz.func94 (by kernel_rfl) rfl
theorem Juw:Ent Tryz.prog 95:=Jac Tryz.func95 (by kernel_rfl) rfl
theorem Jm4:Ent Tryz.prog 114:=Jac Tryz.func114 (by kernel_rfl) rfl
theorem Jcf:Ent Tryz.prog 115:=Jac Tryz.func115 (by kernel_rfl) rfl
theorem Jzj:Ent Tryz.prog 116:=Jac Tryz.func116 (by kernel_rfl) rfl
theorem Jzo:Ent Tryz.prog 117:=Jac Tryz.func117 (by kernel_rfl) rfl
theorem Jz0:Ent Tryz.prog 118:=Jac Tryz.func118 (by kernel_rfl) rfl
theorem Jzr:Ent Tryz.prog 119:=Jac Tryz.func119 (by kernel_rfl) rfl
theorem J26:Ent Tryz.prog 120:=Jac Tryz.func120 (by kernel_rfl) rfl
theorem Jzk:Ent Tryz.prog 121:=Jac Tryz.func121 (by kernel_rfl) rfl
theorem Jhm:Ent Tryz.prog 122:=Jac Tryz.func122 (by kernel_rfl) rfl
theorem J2n:Ent Tryz.prog 123:=Jac Tryz.func123 (by kernel_rfl) rfl
theorem Jmc:Ent Tryz.prog 124:=Jac Tryz.func124 (by kernel_rfl) rfl
theorem Jd6:Ent Tryz.prog 125:=Jac Tryz.func125 (by kernel_rfl) rfl
theorem J1q:Ent Tryz.prog 126:=Jac Tryz.func126 (by kernel_rfl) rfl
theorem J1o:Ent Tryz.prog 127:=Jac Tryz.func127 (by kernel_rfl) rfl
theorem J0o:Ent Tryz.prog 128:=Jac Tryz.func128 (by kernel_rfl) rfl
theorem J19:Ent Tryz.prog 129:=Jac Tryz.func129 (by kernel_rfl) rfl
theorem J2k:Ent Tryz.prog 130:=Jac Tryz.func130 (by kernel_rfl) rfl
theorem J21:Ent Tryz.prog 131:=Jac Tryz.func131 (by kernel_rfl) rfl
theorem Jpw:Ent Tryz.prog 132:=Jac Tryz.func132 (by kernel_rfl) rfl
theorem J1x:Ent Tryz.prog 133:=Jac Tryz.func133 (by kernel_rfl) rfl
theorem J2v:Ent Tryz.prog 134:=Jac Tryz.func134 (by kernel_rfl) rfl
theorem J12:Ent Tryz.prog 135:=Jac Tryz.func135 (by kernel_rfl) rfl
theorem J0v:Ent Tryz.prog 136:=Jac Tryz.func136 (by kernel_rfl) rfl
theorem J14:Ent Tryz.prog 137:=Jac Tryz.func137 (by kernel_rfl) rfl
theorem J0y:Ent Tryz.prog 138:=Jac Tryz.func138 (by kernel_rfl) rfl
theorem J04:Ent Tryz.prog 139:=Jac Tryz.func139 (by kernel_rfl) rfl
theorem Jm3:Ent Tryz.prog 149:=Jac Tryz.func149 (by kernel_rfl) rfl
theorem J1r:Ent Tryz.prog 150:=Jac Tryz.func150 (by kernel_rfl) rfl
theorem J1p:Ent Tryz.prog 151:=Jac Tryz.func151 (by kernel_rfl) rfl
theorem J1z:Ent Tryz.prog 152:=Jac Tryz.func152 (by kernel_rfl) rfl
theorem J1v:Ent Tryz.prog 153:=Jac Tryz.func153 (by kernel_rfl) rfl
theorem J0x:Ent Tryz.prog 154:=Jac Tryz.func154 (by kernel_rfl) rfl
theorem J1n:Ent Tryz.prog 155:=Jac Tryz.func155 (by kernel_rfl) rfl
theorem Js4:Ent Tryz.prog 156:=Jac Tryz.func156 (by kernel_rfl) rfl
theorem Jwk:Ent Tryz.prog 157:=Jac Tryz.func157 (by kernel_rfl) rfl
theorem J1y:Ent Tryz.prog 158:=Jac Tryz.func158 (by kernel_rfl) rfl
theorem Jn1:Ent Tryz.prog 159:=Jac Tryz.func159 (by kernel_rfl) rfl
theorem J24:Ent Tryz.prog 160:=Jac Tryz.func160 (by kernel_rfl) rfl
theorem J2e:Ent Tryz.prog 161:=Jac Tryz.func161 (by kernel_rfl) rfl
theorem Jz6:Ent Tryz.prog 162:=Jac Tryz.func162 (by kernel_rfl) rfl
theorem Jzu:Ent Tryz.prog 163:=Jac Tryz.func163 (by kernel_rfl) rfl
theorem Jv7:Ent Tryz.prog 164:=Jac Tryz.func164 (by kernel_rfl) rfl
theorem Jz1:Ent Tryz.prog 165:=Jac Tryz.func165 (by kernel_rfl) rfl
theorem Jzx:Ent Tryz.prog 166:=Jac Tryz.func166 (by kernel_rfl) rfl
theorem Jwv:Ent Tryz.prog 167:=Jac Tryz.func167 (by kernel_rfl) rfl
theorem J1f:Ent Tryz.prog 168:=Jac Tryz.func168 (by kernel_rfl) rfl
theorem J11:Ent Tryz.prog 169:=Jac Tryz.func169 (by kernel_rfl) rfl
theorem J07:Ent Tryz.prog 170:=Jac Tryz.func170 (by kernel_rfl) rfl
theorem J2f:Ent Tryz.prog 171:=Jac Tryz.func171 (by kernel_rfl) rfl
theorem Jzd:Ent Tryz.prog 172:=Jac Tryz.func172 (by kernel_rfl) rfl
theorem J16:Ent Tryz.prog 173:=Jac Tryz.func173 (by kernel_rfl) rfl
theorem Jjv:Ent Tryz.prog 174:=Jac Tryz.func174 (by kernel_rfl) rfl
theorem Ji5:Ent Tryz.prog 175:=Jac Tryz.func175 (by kernel_rfl) rfl
theorem Jpo:Ent Tryz.prog 176:=Jac Tryz.func176 (by kernel_rfl) rfl
theorem J06:Ent Tryz.prog 177:=Jac Tryz.func177 (by kernel_rfl) rfl
theorem Jwq:Ent Tryz.prog 178:=Jac Tryz.func178 (by kernel_rfl) rfl
theorem J0w:Ent Tryz.prog 183:=Jac Tryz.func183 (by kernel_rfl) rfl
theorem J0j:Ent Tryz.prog 184:=Jac Tryz.func184 (by kernel_rfl) rfl
theorem Jzh:Ent Tryz.prog 185:=Jac Tryz.func185 (by kernel_rfl) rfl
theorem J2x:Ent Tryz.prog 186:=Jac Tryz.func186 (by kernel_rfl) rfl
theorem Jzq:Ent Tryz.prog 187:=Jac Tryz.func187 (by kernel_rfl) rfl
theorem J2b:Ent Tryz.prog 188:=Jac Tryz.func188 (by kernel_rfl) rfl
theorem Jzw:Ent Tryz.prog 189:=Jac Tryz.func189 (by kernel_rfl) rfl
theorem J0e:Ent Tryz.prog 190:=Jac Tryz.func190 (by kernel_rfl) rfl
theorem Jwg:Ent Tryz.prog 191:=Jac Tryz.func191 (by kernel_rfl) rfl
theorem Jze:Ent Tryz.prog 192:=Jac Tryz.func192 (by kernel_rfl) rfl
theorem J2o:Ent Tryz.prog 193:=Jac Tryz.func193 (by kernel_rfl) rfl
theorem J1h:Ent Tryz.prog 194:=Jac Tryz.func194 (by kernel_rfl) rfl
theorem Jsl:Ent Tryz.prog 195:=Jac Tryz.func195 (by kernel_rfl) rfl
theorem Jwt:Ent Tryz.prog 196:=Jac Tryz.func196 (by kernel_rfl) rfl
theorem J2t:Ent Tryz.prog 197:=Jac Tryz.func197 (by kernel_rfl) rfl
theorem J03:Ent Tryz.prog 198:=Jac Tryz.func198 (by kernel_rfl) rfl
theorem J10:Ent Tryz.prog 199:=Jac Tryz.func199 (by kernel_rfl) rfl
theorem J2m:Ent Tryz.prog 200:=Jac Tryz.func200 (by kernel_rfl) rfl
theorem J1u:Ent Tryz.prog 201:=Jac Tryz.func201 (by kernel_rfl) rfl
theorem J01:Ent Tryz.prog 202:=Jac Tryz.func202 (by kernel_rfl) rfl
theorem Jfq:Ent Tryz.prog 203:=Jac Tryz.func203 (by kernel_rfl) rfl
theorem J0u:Ent Tryz.prog 204:=Jac Tryz.func204 (by kernel_rfl) rfl
theorem Jzl:Ent Tryz.prog 205:=Jac Tryz.func205 (by kernel_rfl) rfl
theorem J08:Ent Tryz.prog 206:=Jac Tryz.func206 (by kernel_rfl) rfl
theorem Jz4:Ent Tryz.prog 207:=Jac Tryz.func207 (by kernel_rfl) rfl
theorem Jwh:Ent Tryz.prog 208:=Jac Tryz.func208 (by kernel_rfl) rfl
theorem Jzs:Ent Tryz.prog 209:=Jac Tryz.func209 (by kernel_rfl) rfl
theorem J18:Ent Tryz.prog 210:=Jac Tryz.func210 (by kernel_rfl) rfl
theorem J2w:Ent Tryz.prog 211:=Jac Tryz.func211 (by kernel_rfl) rfl
theorem Jz5:Ent Tryz.prog 212:=Jac Tryz.func212 (by kernel_rfl) rfl
theorem J1b:Ent Tryz.prog 213:=Jac Tryz.func213 (by kernel_rfl) rfl
theorem J17:Ent Tryz.prog 234:=Jac Tryz.func234 (by kernel_rfl) rfl
theorem J2y:Ent Tryz.prog 235:=Jac Tryz.func235 (by kernel_rfl) rfl
theorem Jzt:Ent Tryz.prog 236:=Jac Tryz.func236 (by kernel_rfl) rfl
theorem J09:Ent Tryz.prog 237:=Jac Tryz.func237 (by kernel_rfl) rfl
theorem J0s:Ent Tryz.prog 238:=Jac Tryz.func238 (by kernel_rfl) rfl
instance:Fx Tryz.prog where
 ft:=(.n (.n (.n (.n (.n (.n .o 7 [0,1,2,3] .o) 8 [0,1,2,3] (.n .o 13 [0,1] .o)) 14 [0,1] (.n (.n .o 18 [0] .o) 19 [0] (.n .o 42 [0,1,2,3,4,5,6,7] .o))) 43 [0,1,2,3,4,5,6,7] (.n (.n (.n .o 47 [0,8,9,10,11] .o) 48 [0,8,9,10,11] (.n .o 50 [0,1,2] .o)) 51 [0,1,2] (.n (.n .o 52 [0,1] .o) 53 [0,1] (.n .o 55 [0,1,2,5,6] .o)))) 56 [0,1,2,5,6] (.n (.n (.n (.n .o 67 [0,1] .o) 68 [0,1] (.n .o 70 [0,1] .o)) 71 [0,1] (.n (.n .o 93 [0,1,2] .o) 94 [0,1,2] (.n .o 96 [0,3] .o))) 97 [0,3] (.n (.n (.n .o 98 [0,12,16,17,18,19,20] .o) 99 [0,12,16,17,18,19,20] (.n .o 102 [0,1] .o)) 103 [0,1] (.n (.n .o 104 [0,1,2,3,4,5,6] .o) 105 [0,1,2,3,4,5,6] .o)))) 106 [0,1,2,3,4] (.n (.n (.n (.n (.n .o 107 [0,1,2,3,4] .o) 108 [0,1,2] (.n .o 109 [0,1,2] .o)) 119 [0,1,2,3] (.n (.n .o 120 [0,1,2,3] .o) 121 [0,1,2] (.n .o 122 [0,1,2] .o))) 123 [0,1,2] (.n (.n (.n .o 124 [0,1,2] .o) 125 [0,1] (.n .o 126 [0,1] .o)) 128 [0,1,2,3,4,5,6,7] (.n (.n .o 129 [0,1,2,3,4,5,6,7] .o) 142 [0,12,16] (.n .o 143 [0,12,16] .o)))) 206 [0,1] (.n (.n (.n (.n .o 207 [0,1] .o) 216 [0,8] (.n .o 217 [0,8] .o)) 223 [0,1] (.n (.n .o 224 [0,1] .o) 231 [0,1,2] (.n .o 232 [0,1,2] .o))) 245 [0,1] (.n (.n (.n .o 261 [0] .o) 262 [0] (.n .o 290 [0,1,2,3] .o)) 291 [0,1,2,3] (.n (.n .o 301 [0,1,2,3,4,5,6,7,8,9,10] .o) 302 [0,1,2,3,4,5,6,7,8,9,10] .o)))))
 kt:=(.n (.n (.n (.n (.n (.n (.n (.n (.n .o 1 (false,1) .o) 2 (false,1) .o) 3 (false,1) (.n .o 4 (false,1) .o)) 5 (false,1) (.n (.n .o 6 (false,1) .o) 7 (true,4) (.n .o 8 (true,4) .o))) 9 (false,1) (.n (.n (.n (.n .o 10 (false,1) .o) 11 (false,1) .o) 12 (false,1) (.n .o 13 (true,2) .o)) 14 (true,2) (.n (.n .o 15 (false,1) .o) 16 (false,1) (.n .o 17 (false,1) .o)))) 18 (true,1) (.n (.n (.n (.n (.n .o 19 (true,1) .o) 21 (false,1) .o) 22 (false,1) (.n .o 23 (false,1) .o)) 24 (false,1) (.n (.n .o 26 (false,1) .o) 27 (false,1) (.n .o 28 (false,1) .o))) 30 (false,1) (.n (.n (.n .o 31 (false,1) .o) 32 (false,1) (.n .o 33 (false,1) .o)) 34 (false,1) (.n (.n .o 35 (false,1) .o) 36 (false,1) (.n .o 37 (false,1) .o))))) 38 (false,1) (.n (.n (.n (.n (.n (.n .o 39 (false,1) .o) 40 (false,1) .o) 41 (false,1) (.n .o 42 (true,8) .o)) 43 (true,8) (.n (.n .o 44 (false,1) .o) 45 (false,1) (.n .o 46 (false,1) .o))) 47 (true,12) (.n (.n (.n (.n .o 48 (true,12) .o) 49 (false,1) .o) 50 (true,3) (.n .o 51 (true,3) .o)) 52 (true,4) (.n (.n .o 53 (true,4) .o) 54 (false,1) (.n .o 55 (true,7) .o)))) 56 (true,7) (.n (.n (.n (.n (.n .o 57 (false,1) .o) 58 (false,1) .o) 60 (false,1) (.n .o 62 (false,1) .o)) 63 (false,1) (.n (.n .o 64 (false,1) .o) 65 (false,1) (.n .o 66 (false,1) .o))) 67 (true,2) (.n (.n (.n .o 68 (true,2) .o) 69 (false,1) (.n .o 70 (true,2) .o)) 71 (true,2) (.n (.n .o 73 (false,1) .o) 74 (false,1) (.n .o 75 (false,1) .o)))))) 76 (false,1) (.n (.n (.n (.n (.n (.n (.n .o 77 (false,1) .o) 78 (false,1) .o) 82 (false,1) (.n .o 83 (false,1) .o)) 84 (false,1) (.n (.n .o 85 (false,1) .o) 86 (false,1) (.n .o 88 (false,1) .o))) 89 (false,1) (.n (.n (.n (.n .o 91 (false,1) .o) 92 (false,1) .o) 93 (true,3) (.n .o 94 (true,3) .o)) 95 (false,1) (.n (.n .o 96 (true,4) .o) 97 (true,4) (.n .o 98 (true,21) .o)))) 99 (true,21) (.n (.n (.n (.n (.n .o 100 (false,1) .o) 101 (false,1) .o) 102 (true,2) (.n .o 103 (true,2) .o)) 104 (true,7) (.n (.n .o 105 (true,7) .o) 106 (true,11) (.n .o 107 (true,11) .o))) 108 (true,3) (.n (.n (.n .o 109 (true,3) .o) 110 (false,1) (.n .o 112 (false,1) .o)) 113 (false,1) (.n (.n .o 114 (false,1) .o) 115 (false,1) (.n .o 117 (false,1) .o))))) 118 (false,1) (.n (.n (.n (.n (.n (.n .o 119 (true,4) .o) 120 (true,4) .o) 121 (true,3) (.n .o 122 (true,3) .o)) 123 (true,3) (.n (.n .o 124 (true,3) .o) 125 (true,2) (.n .o 126 (true,2) .o))) 127 (false,1) (.n (.n (.n .o 128 (true,8) .o) 129 (true,8) (.n .o 130 (false,1) .o)) 131 (false,1) (.n (.n .o 132 (false,1) .o) 133 (false,1) (.n .o 134 (false,1) .o)))) 136 (false,1) (.n (.n (.n (.n (.n .o 137 (false,1) .o) 139 (false,1) .o) 140 (false,1) (.n .o 141 (false,1) .o)) 142 (true,17) (.n (.n .o 143 (true,17) .o) 144 (false,1) (.n .o 146 (false,1) .o))) 148 (false,1) (.n (.n (.n .o 149 (false,1) .o) 151 (false,1) (.n .o 152 (false,1) .o)) 153 (false,1) (.n (.n .o 154 (true,256) .o) 155 (true,256) (.n .o 157 (false,1) .o))))))) 158 (false,1) (.n (.n (.n (.n (.n (.n (.n (.n .o 159 (false,1) .o) 160 (false,1) .o) 161 (true,24) (.n .o 162 (false,1) .o)) 163 (false,1) (.n (.n .o 164 (false,1) .o) 166 (false,1) (.n .o 167 (false,1) .o))) 168 (false,1) (.n (.n (.n (.n .o 169 (false,1) .o) 170 (false,1) .o) 171 (false,1) (.n .o 172 (false,1) .o)) 173 (false,1) (.n (.n .o 174 (false,1) .o) 175 (false,1) (.n .o 176 (false,1) .o)))) 177 (false,1) (.n (.n (.n (.n (.n .o 178 (false,1) .o) 179 (false,1) .o) 180 (false,1) (.n .o 181 (false,1) .o)) 182 (false,1) (.n (.n .o 183 (false,1) .o) 184 (false,1) (.n .o 185 (false,1) .o))) 186 (false,1) (.n (.n (.n .o 187 (false,1) .o) 188 (false,1) (.n .o 190 (false,1) .o)) 191 (false,1) (.n (.n .o 192 (false,1) .o) 193 (false,1) (.n .o 194 (false,1) .o))))) 195 (true,20) (.n (.n (.n (.n (.n (.n .o 196 (false,1) .o) 197 (true,65) .o) 198 (false,1) (.n .o 199 (false,1) .o)) 200 (false,1) (.n (.n .o 201 (false,1) .o) 202 (false,1) (.n .o 203 (false,1) .o))) 204 (false,1) (.n (.n (.n .o 205 (false,1) .o) 206 (true,3) (.n .o 207 (true,3) .o)) 208 (false,1) (.n (.n .o 209 (false,1) .o) 210 (false,1) (.n .o 211 (false,1) .o)))) 212 (false,1) (.n (.n (.n (.n (.n .o 213 (false,1) .o) 214 (false,1) .o) 215 (false,1) (.n .o 216 (true,11) .o)) 217 (true,11) (.n (.n .o 218 (false,1) .o) 220 (false,1) (.n .o 221 (false,1) .o))) 222 (true,256) (.n (.n (.n .o 223 (true,2) .o) 224 (true,2) (.n .o 225 (true,32) .o)) 227 (false,1) (.n (.n .o 228 (false,1) .o) 230 (false,1) (.n .o 231 (true,3) .o)))))) 232 (true,3) (.n (.n (.n (.n (.n (.n (.n .o 233 (false,1) .o) 234 (false,1) .o) 235 (false,1) (.n .o 236 (false,1) .o)) 237 (false,1) (.n (.n .o 238 (false,1) .o) 239 (false,1) (.n .o 240 (false,1) .o))) 241 (false,1) (.n (.n (.n (.n .o 242 (false,1) .o) 243 (false,1) .o) 244 (false,1) (.n .o 245 (true,2) .o)) 246 (false,1) (.n (.n .o 247 (false,1) .o) 248 (false,1) (.n .o 249 (false,1) .o)))) 250 (false,1) (.n (.n (.n (.n (.n .o 251 (false,1) .o) 252 (false,1) .o) 253 (false,1) (.n .o 255 (false,1) .o)) 256 (false,1) (.n (.n .o 257 (false,1) .o) 258 (false,1) (.n .o 259 (false,1) .o))) 260 (false,1) (.n (.n (.n .o 261 (true,1) .o) 262 (true,1) (.n .o 263 (true,32) .o)) 264 (true,64) (.n (.n .o 265 (false,1) .o) 266 (false,1) (.n .o 267 (false,1) .o))))) 268 (false,1) (.n (.n (.n (.n (.n (.n .o 269 (false,1) .o) 270 (false,1) .o) 271 (false,1) (.n .o 272 (false,1) .o)) 273 (false,1) (.n (.n .o 274 (false,1) .o) 275 (false,1) (.n .o 276 (false,1) .o))) 277 (false,1) (.n (.n (.n .o 278 (false,1) .o) 279 (false,1) (.n .o 281 (false,1) .o)) 282 (false,1) (.n (.n .o 283 (false,1) .o) 284 (false,1) (.n .o 285 (false,1) .o)))) 286 (true,10) (.n (.n (.n (.n (.n .o 287 (false,1) .o) 288 (false,1) .o) 289 (false,1) (.n .o 290 (true,4) .o)) 291 (true,4) (.n (.n .o 292 (true,0) .o) 293 (true,0) (.n .o 294 (true,0) .o))) 295 (false,1) (.n (.n (.n .o 296 (false,1) .o) 297 (false,1) (.n .o 298 (false,1) .o)) 299 (false,1) (.n (.n .o 300 (false,1) .o) 301 (true,11) (.n .o 302 (true,11) .o))))))))
 st:=(.n (.n (.n (.n (.n .o 23 (56,7,56) .o) 34 (9,1,16) .o) 35 (120,4,40) (.n .o 36 (122,3,48) .o)) 37 (124,3,40) (.n (.n (.n .o 38 (129,8,152) .o) 39 (207,3,40) .o) 40 (109,3,24) (.n .o 41 (109,3,24) .o))) 44 (103,2,16) (.n (.n (.n (.n .o 45 (86,1,24) .o) 46 (107,11,128) .o) 54 (53,4,32) (.n .o 66 (5,1,1) .o)) 76 (78,1,8) (.n (.n (.n .o 86 (3,1,8) .o) 95 (4,1,1) .o) 127 (126,2,16) (.n .o 253 (105,7,72) .o))))
 fk:=by kernel_rfl
 kk:=by kernel_rfl
 sk:=by kernel_rfl
end Go.Proofs.YtfbfdnoodccgiaaGreatDoor
