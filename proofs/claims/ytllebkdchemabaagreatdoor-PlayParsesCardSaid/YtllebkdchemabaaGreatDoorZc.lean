/- Merged texts of this proof. -/
import Derived.Test.YtllebkdchemabaaGreatDoorZb
import Derived.Test.YtllebkdchemabaaGreatDoorProg
import Derived.KernelRfl
namespace Go.Proofs.YtllebkdchemabaaGreatDoor
open Go.Proofs Tryz
theorem mixed:prog.follows .mixedOrders=true:=by kernel_rfl
theorem tk3:tk prog 3=some (false,1):=by kernel_rfl
theorem tk4:tk prog 4=some (false,1):=by kernel_rfl
theorem tk9:tk prog 9=some (false,1):=by kernel_rfl
theorem tk23:tk prog 23=some (false,1):=by kernel_rfl
theorem tk26:tk prog 26=some (false,1):=by kernel_rfl
theorem tk27:tk prog 27=some (false,1):=by kernel_rfl
theorem tk28:tk prog 28=some (false,1):=by kernel_rfl
theorem tk30:tk prog 30=some (false,1):=by kernel_rfl
theorem tk32:tk prog 32=some (true,8):=by kernel_rfl
theorem tk37:tk prog 37=some (true,12):=by kernel_rfl
theorem tk48:tk prog 48=some (false,1):=by kernel_rfl
theorem tk50:tk prog 50=some (true,3):=by kernel_rfl
theorem tk51:tk prog 51=some (false,1):=by kernel_rfl
theorem tk53:tk prog 53=some (true,4):=by kernel_rfl
theorem tk58:tk prog 58=some (false,1):=by kernel_rfl
theorem tk85:tk prog 85=some (true,2):=by kernel_rfl
theorem tk89:tk prog 89=some (true,7):=by kernel_rfl
theorem M4:tk prog 103=some (true,3):=by kernel_rfl
theorem Jek:tk prog 121=some (false,1):=by kernel_rfl
theorem Qf:tk prog 131=some (true,3):=by kernel_rfl
theorem Jhs:tk prog 148=some (false,1):=by kernel_rfl
theorem ZY:tk prog 175=some (true,2):=by kernel_rfl
theorem Jgv:tk prog 190=some (false,1):=by kernel_rfl
theorem Jhz:tk prog 316=some (false,1):=by kernel_rfl
theorem zv3:zv prog 3=some [.int .i64 0]:=by kernel_rfl
theorem zv4:zv prog 4=some [.bool false]:=by kernel_rfl
theorem zv9:zv prog 9=some [.string ⟨#[]⟩]:=by kernel_rfl
theorem zv32:zv prog 32=some [.slice none 0 0,.slice none 0 0,.slice none 0 0,.slice none 0 0,.slice none 0 0,.slice none 0 0,.int .i64 0,.slice none 0 0]:=by kernel_rfl
theorem zv37:zv prog 37=some [.slice none 0 0,.slice none 0 0,.slice none 0 0,.slice none 0 0,.slice none 0 0,.slice none 0 0,.int .i64 0,.slice none 0 0,.slice none 0 0,.slice none 0 0,.slice none 0 0,.int .i64 0]:=by kernel_rfl
theorem zv48:zv prog 48=some [.slice none 0 0]:=by kernel_rfl
theorem zv50:zv prog 50=some [.slice none 0 0,.slice none 0 0,.slice none 0 0]:=by kernel_rfl
theorem zv53:zv prog 53=some (List.replicate 4 (.slice none 0 0)):=by kernel_rfl
theorem zv58:zv prog 58=some [.slice none 0 0]:=by kernel_rfl
theorem zv82:zv prog 82=some [.slice none 0 0,.slice none 0 0,.slice none 0 0,.slice none 0 0,.slice none 0 0,.slice none 0 0,.int .i64 0,.slice none 0 0,.slice none 0 0,.slice none 0 0,.slice none 0 0,.int .i64 0,.int .i64 0]:=by kernel_rfl
theorem zv85:zv prog 85=some [.int .i64 0,.int .i64 0]:=by kernel_rfl
theorem zv89:zv prog 89=some [.int .i64 0,.int .i64 0,.int .i64 0,.int .i64 0,.int .i64 0,.slice none 0 0,.bool false]:=by kernel_rfl
theorem zv91:zv prog 91=some [.string ⟨#[]⟩,.int .i64 0,.int .i64 0,.slice none 0 0,.int .i64 0,.int .i64 0,.int .i64 0,.int .i64 0,.int .i64 0,.slice none 0 0,.bool false]:=by kernel_rfl
theorem Cu:zv prog 103=some [.int .i64 0,.int .i64 0,.bool false]:=by kernel_rfl
theorem FG:zv prog 105=some [.string ⟨#[]⟩,.int .i64 0,.int .i64 0,.int .i64 0]:=by kernel_rfl
theorem Qv:zv prog 123=some [.slice none 0 0,.slice none 0 0,.slice none 0 0,.slice none 0 0,.slice none 0 0,.slice none 0 0,.int .i64 0,.slice none 0 0,.slice none 0 0,.slice none 0 0,.slice none 0 0,.int .i64 0,.slice none 0 0,.slice none 0 0,.slice none 0 0,.slice none 0 0,.map none]:=by kernel_rfl
theorem MP:zv prog 131=some [.int .i64 0,.int .i64 0,.int .i64 0]:=by kernel_rfl
theorem Jhi:zv prog 136=some [.slice none 0 0,.slice none 0 0,.slice none 0 0,.slice none 0 0,.slice none 0 0,.slice none 0 0,.int .i64 0,.slice none 0 0,.int .i64 0,.slice none 0 0]:=by kernel_rfl
theorem Jh5:zv prog 151=some [.slice none 0 0]:=by kernel_rfl
theorem E3:zv prog 160=some [.string ⟨#[]⟩,.int .i64 0,.int .i64 0,.slice none 0 0,.slice none 0 0,.slice none 0 0,.slice none 0 0,.slice none 0 0]:=by kernel_rfl
theorem EP:zv prog 170=some [.string ⟨#[]⟩,.int .i64 0,.slice none 0 0]:=by kernel_rfl
theorem Ex:zv prog 172=some [.int .i64 0,.int .i64 0,.slice none 0 0]:=by kernel_rfl
theorem GN:zv prog 175=some [.int .i64 0,.int .i64 0]:=by kernel_rfl
theorem Nh:zv prog 177=some [.slice none 0 0,.int .i64 0,.int .i64 0]:=by kernel_rfl
theorem Jg9:zv prog 207=some [.pointer none]:=by kernel_rfl
theorem Jg6:zv prog 219=some [.nilFunc]:=by kernel_rfl
theorem Jfy:zv prog 267=some [.pointer none,.slice none 0 0,.bool false]:=by kernel_rfl
theorem Jh0:zv prog 281=some [.slice none 0 0,.slice none 0 0,.slice none 0 0,.slice none 0 0,.slice none 0 0,.slice none 0 0,.int .i64 0,.slice none 0 0,.slice none 0 0,.slice none 0 0,.slice none 0 0]:=by kernel_rfl
theorem Jbl:zv prog 378=some (List.replicate 10 (.int .i64 0)):=by kernel_rfl
theorem sl23:sl prog 23=some (9,1,16):=by kernel_rfl
theorem sl24:sl prog 24=some (105,4,40):=by kernel_rfl
theorem sl25:sl prog 25=some (170,3,48):=by kernel_rfl
theorem sl26:sl prog 26=some (172,3,40):=by kernel_rfl
theorem sl27:sl prog 27=some (160,8,152):=by kernel_rfl
theorem sl28:sl prog 28=some (177,3,40):=by kernel_rfl
theorem sl29:sl prog 29=some (103,3,24):=by kernel_rfl
theorem sl30:sl prog 30=some (103,3,24):=by kernel_rfl
theorem sl33:sl prog 33=some (85,2,16):=by kernel_rfl
theorem sl34:sl prog 34=some (48,1,24):=by kernel_rfl
theorem sl35:sl prog 35=some (91,11,128):=by kernel_rfl
theorem sl48:sl prog 48=some (3,1,8):=by kernel_rfl
theorem sl51:sl prog 51=some (4,1,1):=by kernel_rfl
theorem sl58:sl prog 58=some (131,3,24):=by kernel_rfl
theorem Me:sl prog 148=some (71,1,16):=by kernel_rfl
theorem KP:sl prog 158=some (175,2,16):=by kernel_rfl
theorem Ka:sl prog 187=some (190,1,8):=by kernel_rfl
theorem SV:sl prog 216=some (89,7,72):=by kernel_rfl
theorem Fo:arr prog 378=some (10,1):=by kernel_rfl
theorem J8:plc prog 32=some [(0,1),(1,1),(2,1),(3,1),(4,1),(5,1),(6,1),(7,1)]:=by kernel_rfl
theorem H9:plc prog 37=some [(0,8),(8,1),(9,1),(10,1),(11,1)]:=by kernel_rfl
theorem I6:plc prog 50=some [(0,1),(1,1),(2,1)]:=by kernel_rfl
theorem Hs:plc prog 53=some [(0,3),(3,1)]:=by kernel_rfl
theorem Jgr:plc prog 82=some [(0,12),(12,1)]:=by kernel_rfl
theorem Z5:plc prog 85=some [(0,1),(1,1)]:=by kernel_rfl
theorem Gx:plc prog 89=some [(0,1),(1,1),(2,1),(3,1),(4,1),(5,1),(6,1)]:=by kernel_rfl
theorem T6:plc prog 91=some [(0,1),(1,1),(2,1),(3,1),(4,7)]:=by kernel_rfl
theorem Hd:plc prog 103=some [(0,1),(1,1),(2,1)]:=by kernel_rfl
theorem OL:plc prog 105=some [(0,1),(1,1),(2,1),(3,1)]:=by kernel_rfl
theorem JK:plc prog 123=some [(0,12),(12,4),(16,1)]:=by kernel_rfl
theorem Jdo:plc prog 131=some [(0,1),(1,1),(2,1)]:=by kernel_rfl
theorem Jdn:plc prog 136=some [(0,8),(8,1),(9,1)]:=by kernel_rfl
theorem Jfa:plc prog 151=some [(0,1)]:=by kernel_rfl
theorem PN:plc prog 160=some [(0,1),(1,1),(2,1),(3,1),(4,1),(5,1),(6,1),(7,1)]:=by kernel_rfl
theorem TD:plc prog 170=some [(0,1),(1,1),(2,1)]:=by kernel_rfl
theorem RL:plc prog 172=some [(0,1),(1,1),(2,1)]:=by kernel_rfl
theorem LT:plc prog 175=some [(0,1),(1,1)]:=by kernel_rfl
theorem X4:plc prog 177=some [(0,1),(1,2)]:=by kernel_rfl
theorem XO:plc prog 267=some [(0,1),(1,1),(2,1)]:=by kernel_rfl
theorem Jb0:plc prog 281=some [(0,8),(8,3)]:=by kernel_rfl
theorem ent5:Ent prog 5:=Ac func5 (by kernel_rfl) rfl
theorem ent6:Ent prog 6:=Ac func6 (by kernel_rfl) rfl
theorem ent7:Ent prog 7:=Ac func7 (by kernel_rfl) rfl
theorem ent8:Ent prog 8:=Ac func8 (by kernel_rfl) rfl
theorem Jh6:Ent prog 14:=Ac func14 (by kernel_rfl) rfl
theorem Jih:Ent prog 15:=Ac func15 (by kernel_rfl) rfl
theorem Jic:Ent prog 16:=Ac func16 (by kernel_rfl) rfl
theorem Jgm:Ent prog 17:=Ac func17 (by kernel_rfl) rfl
theorem Jhy:Ent prog 18:=Ac func18 (by kernel_rfl) rfl
theorem Jgh:Ent prog 19:=Ac func19 (by kernel_rfl) rfl
theorem Jhl:Ent prog 20:=Ac func20 (by kernel_rfl) rfl
theorem Jhf:Ent prog 21:=Ac func21 (by kernel_rfl) rfl
theorem Jg5:Ent prog 22:=Ac func22 (by kernel_rfl) rfl
theorem Jh4:Ent prog 23:=Ac func23 (by kernel_rfl) rfl
theorem Jge:Ent prog 24:=Ac func24 (by kernel_rfl) rfl
theorem Jhh:Ent prog 25:=Ac func25 (by kernel_rfl) rfl
theorem U0:Ent prog 26:=Ac func26 (by kernel_rfl) rfl
theorem Jhd:Ent prog 27:=Ac func27 (by kernel_rfl) rfl
theorem Jhv:Ent prog 28:=Ac func28 (by kernel_rfl) rfl
theorem Yu:Ent prog 29:=Ac func29 (by kernel_rfl) rfl
theorem RD:Ent prog 30:=Ac func30 (by kernel_rfl) rfl
theorem Jgq:Ent prog 31:=Ac func31 (by kernel_rfl) rfl
theorem Yq:Ent prog 32:=Ac func32 (by kernel_rfl) rfl
theorem WF:Ent prog 33:=Ac func33 (by kernel_rfl) rfl
theorem Jgn:Ent prog 34:=Ac func34 (by kernel_rfl) rfl
theorem Jgs:Ent prog 35:=Ac func35 (by kernel_rfl) rfl
theorem Jh3:Ent prog 36:=Ac func36 (by kernel_rfl) rfl
theorem Jhb:Ent prog 37:=Ac func37 (by kernel_rfl) rfl
theorem S7:Ent prog 38:=Ac func38 (by kernel_rfl) rfl
theorem Jht:Ent prog 39:=Ac func39 (by kernel_rfl) rfl
theorem Jhu:Ent prog 62:=Ac func62 (by kernel_rfl) rfl
theorem Jhe:Ent prog 63:=Ac func63 (by kernel_rfl) rfl
theorem Ho:Ent prog 64:=Ac func64 (by kernel_rfl) rfl
theorem Jcf:Ent prog 65:=Ac func65 (by kernel_rfl) rfl
theorem Jij:Ent prog 66:=Ac func66 (by kernel_rfl) rfl
theorem Zm:Ent prog 67:=Ac func67 (by kernel_rfl) rfl
theorem Jdy:Ent prog 68:=Ac func68 (by kernel_rfl) rfl
theorem Jhq:Ent prog 69:=Ac func69 (by kernel_rfl) rfl
theorem Jh8:Ent prog 70:=Ac func70 (by kernel_rfl) rfl
theorem Jcx:Ent prog 71:=Ac func71 (by kernel_rfl) rfl
theorem Jib:Ent prog 74:=Ac func74 (by kernel_rfl) rfl
theorem Jgx:Ent prog 75:=Ac func75 (by kernel_rfl) rfl
theorem U2:Ent prog 76:=Ac func76 (by kernel_rfl) rfl
theorem Hm:Ent prog 79:=Ac func79 (by kernel_rfl) rfl
theorem Yr:Ent prog 80:=Ac func80 (by kernel_rfl) rfl
theorem Je0:Ent prog 81:=Ac func81 (by kernel_rfl) rfl
theorem SC:Ent prog 82:=Ac func82 (by kernel_rfl) rfl
theorem Jg3:Ent prog 83:=Ac func83 (by kernel_rfl) rfl
theorem Z4:Ent prog 84:=Ac func84 (by kernel_rfl) rfl
theorem Jeg:Ent prog 85:=Ac func85 (by kernel_rfl) rfl
theorem Jbw:Ent prog 87:=Ac func87 (by kernel_rfl) rfl
theorem Uk:Ent prog 88:=Ac func88 (by kernel_rfl) rfl
theorem Jdi:Ent prog 89:=Ac func89 (by kernel_rfl) rfl
theorem Jgy:Ent prog 90:=Ac func90 (by kernel_rfl) rfl
theorem Jhp:Ent prog 91:=Ac func91 (by kernel_rfl) rfl
theorem Jhg:Ent prog 92:=Ac func92 (by kernel_rfl) rfl
theorem Jb9:Ent prog 93:=Ac func93 (by kernel_rfl) rfl
theorem Jgp:Ent prog 94:=Ac func94 (by kernel_rfl) rfl
theorem Jg7:Ent prog 95:=Ac func95 (by kernel_rfl) rfl
theorem RP:Ent prog 96:=Ac func96 (by kernel_rfl) rfl
theorem WM:Ent prog 97:=Ac func97 (by kernel_rfl) rfl
theorem Jhj:Ent prog 98:=Ac func98 (by kernel_rfl) rfl
theorem Jig:Ent prog 99:=Ac func99 (by kernel_rfl) rfl
theorem JJ:Ent prog 100:=Ac func100 (by kernel_rfl) rfl
theorem Uf:Ent prog 101:=Ac func101 (by kernel_rfl) rfl
theorem IL:Ent prog 102:=Ac func102 (by kernel_rfl) rfl
theorem Jc3:Ent prog 103:=Ac func103 (by kernel_rfl) rfl
theorem Jby:Ent prog 104:=Ac func104 (by kernel_rfl) rfl
theorem Jb8:Ent prog 113:=Ac func113 (by kernel_rfl) rfl
theorem Jf4:Ent prog 114:=Ac func114 (by kernel_rfl) rfl
theorem Jcr:Ent prog 119:=Ac func119 (by kernel_rfl) rfl
theorem Xy:Ent prog 120:=Ac func120 (by kernel_rfl) rfl
theorem Jed:Ent prog 121:=Ac func121 (by kernel_rfl) rfl
theorem KY:Ent prog 134:=Ac func134 (by kernel_rfl) rfl
theorem OY:Ent prog 135:=Ac func135 (by kernel_rfl) rfl
theorem Jci:Ent prog 136:=Ac func136 (by kernel_rfl) rfl
theorem XA:Ent prog 137:=Ac func137 (by kernel_rfl) rfl
theorem El:Ent prog 138:=Ac func138 (by kernel_rfl) rfl
theorem He:Ent prog 139:=Ac func139 (by kernel_rfl) rfl
theorem ST:Ent prog 140:=Ac func140 (by kernel_rfl) rfl
theorem Jem:Ent prog 141:=Ac func141 (by kernel_rfl) rfl
theorem Jcn:Ent prog 142:=Ac func142 (by kernel_rfl) rfl
theorem Jdc:Ent prog 143:=Ac func143 (by kernel_rfl) rfl
theorem Jbr:Ent prog 144:=Ac func144 (by kernel_rfl) rfl
theorem Ou:Ent prog 145:=Ac func145 (by kernel_rfl) rfl
theorem Jbd:Ent prog 146:=Ac func146 (by kernel_rfl) rfl
theorem X3:Ent prog 147:=Ac func147 (by kernel_rfl) rfl
theorem Sw:Ent prog 148:=Ac func148 (by kernel_rfl) rfl
theorem Ps:Ent prog 149:=Ac func149 (by kernel_rfl) rfl
theorem Ja9:Ent prog 150:=Ac func150 (by kernel_rfl) rfl
theorem X2:Ent prog 155:=Ac func155 (by kernel_rfl) rfl
theorem Hf:Ent prog 156:=Ac func156 (by kernel_rfl) rfl
theorem Cp:Ent prog 157:=Ac func157 (by kernel_rfl) rfl
theorem JH:Ent prog 158:=Ac func158 (by kernel_rfl) rfl
theorem E6:Ent prog 159:=Ac func159 (by kernel_rfl) rfl
theorem L5:Ent prog 160:=Ac func160 (by kernel_rfl) rfl
theorem Lm:Ent prog 161:=Ac func161 (by kernel_rfl) rfl
theorem PL:Ent prog 162:=Ac func162 (by kernel_rfl) rfl
theorem Uj:Ent prog 163:=Ac func163 (by kernel_rfl) rfl
theorem X5:Ent prog 164:=Ac func164 (by kernel_rfl) rfl
theorem TJ:Ent prog 165:=Ac func165 (by kernel_rfl) rfl
theorem Ye:Ent prog 166:=Ac func166 (by kernel_rfl) rfl
theorem Pz:Ent prog 167:=Ac func167 (by kernel_rfl) rfl
theorem Cy:Ent prog 168:=Ac func168 (by kernel_rfl) rfl
theorem Jdm:Ent prog 169:=Ac func169 (by kernel_rfl) rfl
theorem Jgg:Ent prog 170:=Ac func170 (by kernel_rfl) rfl
theorem Jfm:Ent prog 171:=Ac func171 (by kernel_rfl) rfl
theorem Jdl:Ent prog 172:=Ac func172 (by kernel_rfl) rfl
theorem Jfi:Ent prog 173:=Ac func173 (by kernel_rfl) rfl
theorem Je8:Ent prog 174:=Ac func174 (by kernel_rfl) rfl
theorem Jq:Ent prog 175:=Ac func175 (by kernel_rfl) rfl
theorem Jb2:Ent prog 176:=Ac func176 (by kernel_rfl) rfl
theorem Of:Ent prog 177:=Ac func177 (by kernel_rfl) rfl
theorem X9:Ent prog 179:=Ac func179 (by kernel_rfl) rfl
theorem UM:Ent prog 180:=Ac func180 (by kernel_rfl) rfl
theorem Su:Ent prog 181:=Ac func181 (by kernel_rfl) rfl
theorem Jbe:Ent prog 182:=Ac func182 (by kernel_rfl) rfl
theorem SD:Ent prog 183:=Ac func183 (by kernel_rfl) rfl
theorem Ey:Ent prog 184:=Ac func184 (by kernel_rfl) rfl
theorem Jfs:Ent prog 185:=Ac func185 (by kernel_rfl) rfl
theorem Je4:Ent prog 186:=Ac func186 (by kernel_rfl) rfl
theorem Jbq:Ent prog 187:=Ac func187 (by kernel_rfl) rfl
theorem Jbv:Ent prog 188:=Ac func188 (by kernel_rfl) rfl
theorem Jeh:Ent prog 189:=Ac func189 (by kernel_rfl) rfl
theorem SQ:Ent prog 190:=Ac func190 (by kernel_rfl) rfl
theorem Jcq:Ent prog 191:=Ac func191 (by kernel_rfl) rfl
theorem Jgl:Ent prog 192:=Ac func192 (by kernel_rfl) rfl
theorem Pw:Ent prog 193:=Ac func193 (by kernel_rfl) rfl
theorem IQ:Ent prog 194:=Ac func194 (by kernel_rfl) rfl
theorem Jl:Ent prog 195:=Ac func195 (by kernel_rfl) rfl
theorem JI:Ent prog 196:=Ac func196 (by kernel_rfl) rfl
theorem Mz:Ent prog 197:=Ac func197 (by kernel_rfl) rfl
theorem Iz:Ent prog 198:=Ac func198 (by kernel_rfl) rfl
theorem Lh:Ent prog 199:=Ac func199 (by kernel_rfl) rfl
theorem TV:Ent prog 200:=Ac func200 (by kernel_rfl) rfl
theorem Py:Ent prog 201:=Ac func201 (by kernel_rfl) rfl
theorem PK:Ent prog 202:=Ac func202 (by kernel_rfl) rfl
theorem LF:Ent prog 203:=Ac func203 (by kernel_rfl) rfl
theorem Ul:Ent prog 204:=Ac func204 (by kernel_rfl) rfl
theorem LL:Ent prog 205:=Ac func205 (by kernel_rfl) rfl
theorem G8:Ent prog 206:=Ac func206 (by kernel_rfl) rfl
theorem Jdt:Ent prog 207:=Ac func207 (by kernel_rfl) rfl
theorem UO:Ent prog 208:=Ac func208 (by kernel_rfl) rfl
theorem XZ:Ent prog 209:=Ac func209 (by kernel_rfl) rfl
theorem Dv:Ent prog 210:=Ac func210 (by kernel_rfl) rfl
theorem Yh:Ent prog 211:=Ac func211 (by kernel_rfl) rfl
theorem Jb4:Ent prog 212:=Ac func212 (by kernel_rfl) rfl
theorem Jfl:Ent prog 213:=Ac func213 (by kernel_rfl) rfl
theorem Yf:Ent prog 217:=Ac func217 (by kernel_rfl) rfl
theorem Jd9:Ent prog 218:=Ac func218 (by kernel_rfl) rfl
theorem Jm:Ent prog 219:=Ac func219 (by kernel_rfl) rfl
theorem Jc2:Ent prog 220:=Ac func220 (by kernel_rfl) rfl
theorem Jer:Ent prog 221:=Ac func221 (by kernel_rfl) rfl
theorem Jde:Ent prog 222:=Ac func222 (by kernel_rfl) rfl
theorem Jf8:Ent prog 223:=Ac func223 (by kernel_rfl) rfl
theorem LE:Ent prog 224:=Ac func224 (by kernel_rfl) rfl
theorem L7:Ent prog 225:=Ac func225 (by kernel_rfl) rfl
theorem Th:Ent prog 226:=Ac func226 (by kernel_rfl) rfl
theorem O4:Ent prog 227:=Ac func227 (by kernel_rfl) rfl
theorem Jdq:Ent prog 228:=Ac func228 (by kernel_rfl) rfl
theorem XW:Ent prog 229:=Ac func229 (by kernel_rfl) rfl
theorem OA:Ent prog 230:=Ac func230 (by kernel_rfl) rfl
theorem Jck:Ent prog 231:=Ac func231 (by kernel_rfl) rfl
theorem Jbk:Ent prog 232:=Ac func232 (by kernel_rfl) rfl
theorem Jy:Ent prog 235:=Ac func235 (by kernel_rfl) rfl
theorem Jfz:Ent prog 236:=Ac func236 (by kernel_rfl) rfl
theorem TA:Ent prog 237:=Ac func237 (by kernel_rfl) rfl
theorem Jb7:Ent prog 238:=Ac func238 (by kernel_rfl) rfl
theorem Yn:Ent prog 239:=Ac func239 (by kernel_rfl) rfl
theorem XC:Ent prog 240:=Ac func240 (by kernel_rfl) rfl
theorem Xz:Ent prog 241:=Ac func241 (by kernel_rfl) rfl
theorem Jey:Ent prog 242:=Ac func242 (by kernel_rfl) rfl
theorem Jd8:Ent prog 243:=Ac func243 (by kernel_rfl) rfl
theorem Ja2:Ent prog 244:=Ac func244 (by kernel_rfl) rfl
theorem UE:Ent prog 245:=Ac func245 (by kernel_rfl) rfl
theorem XL:Ent prog 246:=Ac func246 (by kernel_rfl) rfl
theorem Jd0:Ent prog 247:=Ac func247 (by kernel_rfl) rfl
theorem Jgj:Ent prog 248:=Ac func248 (by kernel_rfl) rfl
theorem Jcl:Ent prog 249:=Ac func249 (by kernel_rfl) rfl
theorem Jf2:Ent prog 251:=Ac func251 (by kernel_rfl) rfl
theorem Jfe:Ent prog 252:=Ac func252 (by kernel_rfl) rfl
theorem XP:Ent prog 263:=Ac func263 (by kernel_rfl) rfl
theorem Jga:Ent prog 264:=Ac func264 (by kernel_rfl) rfl
theorem GZ:Ent prog 265:=Ac func265 (by kernel_rfl) rfl
theorem TI:Ent prog 266:=Ac func266 (by kernel_rfl) rfl
theorem Yp:Ent prog 267:=Ac func267 (by kernel_rfl) rfl
theorem Jbg:Ent prog 268:=Ac func268 (by kernel_rfl) rfl
theorem Jcd:Ent prog 269:=Ac func269 (by kernel_rfl) rfl
theorem Jct:Ent prog 270:=Ac func270 (by kernel_rfl) rfl
theorem Yj:Ent prog 271:=Ac func271 (by kernel_rfl) rfl
theorem Jba:Ent prog 272:=Ac func272 (by kernel_rfl) rfl
theorem Pv:Ent prog 273:=Ac func273 (by kernel_rfl) rfl
theorem Jex:Ent prog 274:=Ac func274 (by kernel_rfl) rfl
theorem Jee:Ent prog 275:=Ac func275 (by kernel_rfl) rfl
theorem UF:Ent prog 276:=Ac func276 (by kernel_rfl) rfl
theorem XG:Ent prog 277:=Ac func277 (by kernel_rfl) rfl
theorem Jbs:Ent prog 278:=Ac func278 (by kernel_rfl) rfl
theorem T7:Ent prog 279:=Ac func279 (by kernel_rfl) rfl
theorem Jfq:Ent prog 280:=Ac func280 (by kernel_rfl) rfl
theorem Jet:Ent prog 285:=Ac func285 (by kernel_rfl) rfl
theorem Jdx:Ent prog 286:=Ac func286 (by kernel_rfl) rfl
theorem Jfh:Ent prog 287:=Ac func287 (by kernel_rfl) rfl
theorem Jgb:Ent prog 288:=Ac func288 (by kernel_rfl) rfl
theorem Ja6:Ent prog 289:=Ac func289 (by kernel_rfl) rfl
theorem Jfj:Ent prog 290:=Ac func290 (by kernel_rfl) rfl
theorem Jfn:Ent prog 291:=Ac func291 (by kernel_rfl) rfl
theorem XT:Ent prog 292:=Ac func292 (by kernel_rfl) rfl
theorem Je3:Ent prog 293:=Ac func293 (by kernel_rfl) rfl
theorem Jdu:Ent prog 299:=Ac func299 (by kernel_rfl) rfl
theorem Jfk:Ent prog 300:=Ac func300 (by kernel_rfl) rfl
theorem Jcy:Ent prog 301:=Ac func301 (by kernel_rfl) rfl
theorem Jd7:Ent prog 302:=Ac func302 (by kernel_rfl) rfl
theorem Jch:Ent prog 303:=Ac func303 (by kernel_rfl) rfl
theorem Jfv:Ent prog 304:=Ac func304 (by kernel_rfl) rfl
theorem Jff:Ent prog 305:=Ac func305 (by kernel_rfl) rfl
theorem Jb6:Ent prog 306:=Ac func306 (by kernel_rfl) rfl
theorem Yo:Ent prog 307:=Ac func307 (by kernel_rfl) rfl
theorem Jez:Ent prog 315:=Ac func315 (by kernel_rfl) rfl
theorem Jc6:Ent prog 316:=Ac func316 (by kernel_rfl) rfl
theorem Jbb:Ent prog 317:=Ac func317 (by kernel_rfl) rfl
theorem Ja5:Ent prog 318:=Ac func318 (by kernel_rfl) rfl
theorem Jft:Ent prog 319:=Ac func319 (by kernel_rfl) rfl
theorem Jca:Ent prog 320:=Ac func320 (by kernel_rfl) rfl
theorem Yl:Ent prog 321:=Ac func321 (by kernel_rfl) rfl
theorem Jbf:Ent prog 322:=Ac func322 (by kernel_rfl) rfl
theorem Jes:Ent prog 328:=Ac func328 (by kernel_rfl) rfl
theorem Yg:Ent prog 329:=Ac func329 (by kernel_rfl) rfl
theorem Ja0:Ent prog 330:=Ac func330 (by kernel_rfl) rfl
theorem Jeq:Ent prog 331:=Ac func331 (by kernel_rfl) rfl
theorem Jd1:Ent prog 332:=Ac func332 (by kernel_rfl) rfl
theorem Jew:Ent prog 335:=Ac func335 (by kernel_rfl) rfl
theorem Ja4:Ent prog 336:=Ac func336 (by kernel_rfl) rfl
theorem Jea:Ent prog 341:=Ac func341 (by kernel_rfl) rfl
theorem Je2:Ent prog 344:=Ac func344 (by kernel_rfl) rfl
theorem Jdg:Ent prog 345:=Ac func345 (by kernel_rfl) rfl
theorem Jeu:Ent prog 365:=Ac func365 (by kernel_rfl) rfl
instance:Fx prog where
 ft:=(.n (.n (.n (.n (.n (.n (.n .o 7 [0,1,2,3] .o) 8 [0,1,2,3] .o) 13 [0,1] (.n .o 14 [0,1] .o)) 18 [0] (.n (.n .o 19 [0] .o) 31 [0,1,2,3,4,5,6,7] (.n .o 32 [0,1,2,3,4,5,6,7] .o))) 36 [0,8,9,10,11] (.n (.n (.n (.n .o 37 [0,8,9,10,11] .o) 49 [0,1,2] .o) 50 [0,1,2] (.n .o 52 [0,3] .o)) 53 [0,3] (.n (.n .o 81 [0,12] .o) 82 [0,12] (.n .o 84 [0,1] .o)))) 85 [0,1] (.n (.n (.n (.n (.n .o 88 [0,1,2,3,4,5,6] .o) 89 [0,1,2,3,4,5,6] .o) 90 [0,1,2,3,4] (.n .o 91 [0,1,2,3,4] .o)) 96 [0,1] (.n (.n .o 97 [0,1] .o) 102 [0,1,2] (.n .o 103 [0,1,2] .o))) 104 [0,1,2,3] (.n (.n (.n .o 105 [0,1,2,3] .o) 122 [0,12,16] (.n .o 123 [0,12,16] .o)) 130 [0,1,2] (.n (.n .o 131 [0,1,2] .o) 135 [0,8,9] (.n .o 136 [0,8,9] .o))))) 150 [0] (.n (.n (.n (.n (.n (.n .o 151 [0] .o) 159 [0,1,2,3,4,5,6,7] .o) 160 [0,1,2,3,4,5,6,7] (.n .o 169 [0,1,2] .o)) 170 [0,1,2] (.n (.n .o 171 [0,1,2] .o) 172 [0,1,2] (.n .o 174 [0,1] .o))) 175 [0,1] (.n (.n (.n (.n .o 176 [0,1] .o) 177 [0,1] .o) 227 [] (.n .o 228 [] .o)) 247 [0,1] (.n (.n .o 266 [0,1,2] .o) 267 [0,1,2] (.n .o 280 [0,8] .o)))) 281 [0,8] (.n (.n (.n (.n (.n .o 361 [0,1] .o) 362 [0,1] .o) 370 [0,1,2] (.n .o 371 [0,1,2] .o)) 376 [0] (.n (.n .o 377 [0] .o) 381 [0,1,2,3] (.n .o 382 [0,1,2,3] .o))) 391 [0,1,2,3,4,5,6,7,8,9,10] (.n (.n (.n .o 392 [0,1,2,3,4,5,6,7,8,9,10] .o) 399 [0,1] (.n .o 400 [0,1] .o)) 404 [0,1,2,3,4] (.n (.n .o 405 [0,1,2,3,4] .o) 408 [0,1,2,3] (.n .o 409 [0,1,2,3] .o))))))
 kt:=(.n (.n (.n (.n (.n (.n (.n (.n (.n .o 1 (false,1) .o) 2 (false,1) .o) 3 (false,1) (.n (.n .o 4 (false,1) .o) 5 (false,1) .o)) 6 (false,1) (.n (.n (.n .o 7 (true,4) .o) 8 (true,4) .o) 9 (false,1) (.n (.n .o 10 (false,1) .o) 11 (false,1) .o))) 12 (false,1) (.n (.n (.n (.n .o 13 (true,2) .o) 14 (true,2) .o) 15 (false,1) (.n (.n .o 16 (false,1) .o) 17 (false,1) .o)) 18 (true,1) (.n (.n (.n .o 19 (true,1) .o) 21 (false,1) .o) 22 (false,1) (.n (.n .o 23 (false,1) .o) 24 (false,1) .o)))) 25 (false,1) (.n (.n (.n (.n (.n .o 26 (false,1) .o) 27 (false,1) .o) 28 (false,1) (.n (.n .o 29 (false,1) .o) 30 (false,1) .o)) 31 (true,8) (.n (.n (.n .o 32 (true,8) .o) 33 (false,1) .o) 34 (false,1) (.n (.n .o 35 (false,1) .o) 36 (true,12) .o))) 37 (true,12) (.n (.n (.n (.n .o 38 (false,1) .o) 40 (false,1) .o) 41 (false,1) (.n (.n .o 42 (false,1) .o) 43 (false,1) .o)) 45 (false,1) (.n (.n (.n .o 46 (false,1) .o) 47 (false,1) .o) 48 (false,1) (.n .o 49 (true,3) .o))))) 50 (true,3) (.n (.n (.n (.n (.n (.n .o 51 (false,1) .o) 52 (true,4) .o) 53 (true,4) (.n (.n .o 55 (false,1) .o) 57 (false,1) .o)) 58 (false,1) (.n (.n (.n .o 60 (false,1) .o) 61 (false,1) .o) 62 (false,1) (.n (.n .o 63 (false,1) .o) 64 (false,1) .o))) 66 (false,1) (.n (.n (.n (.n .o 67 (false,1) .o) 69 (false,1) .o) 72 (false,1) (.n (.n .o 73 (false,1) .o) 75 (false,1) .o)) 76 (false,1) (.n (.n (.n .o 77 (false,1) .o) 78 (false,1) .o) 79 (false,1) (.n .o 80 (false,1) .o)))) 81 (true,13) (.n (.n (.n (.n (.n .o 82 (true,13) .o) 83 (false,1) .o) 84 (true,2) (.n (.n .o 85 (true,2) .o) 86 (false,1) .o)) 87 (false,1) (.n (.n (.n .o 88 (true,7) .o) 89 (true,7) .o) 90 (true,11) (.n (.n .o 91 (true,11) .o) 92 (false,1) .o))) 93 (false,1) (.n (.n (.n (.n .o 94 (false,1) .o) 95 (false,1) .o) 96 (true,2) (.n (.n .o 97 (true,2) .o) 99 (false,1) .o)) 100 (false,1) (.n (.n (.n .o 101 (false,1) .o) 102 (true,3) .o) 103 (true,3) (.n .o 104 (true,4) .o)))))) 105 (true,4) (.n (.n (.n (.n (.n (.n (.n .o 106 (false,1) .o) 107 (false,1) .o) 108 (false,1) (.n (.n .o 109 (false,1) .o) 110 (false,1) .o)) 111 (false,1) (.n (.n (.n .o 112 (false,1) .o) 113 (false,1) .o) 114 (false,1) (.n (.n .o 115 (false,1) .o) 116 (false,1) .o))) 117 (false,1) (.n (.n (.n (.n .o 119 (false,1) .o) 120 (false,1) .o) 121 (false,1) (.n (.n .o 122 (true,17) .o) 123 (true,17) .o)) 124 (false,1) (.n (.n (.n .o 125 (false,1) .o) 127 (false,1) .o) 128 (false,1) (.n (.n .o 129 (false,1) .o) 130 (true,3) .o)))) 131 (true,3) (.n (.n (.n (.n (.n .o 132 (false,1) .o) 133 (false,1) .o) 134 (false,1) (.n (.n .o 135 (true,10) .o) 136 (true,10) .o)) 138 (false,1) (.n (.n (.n .o 139 (false,1) .o) 140 (false,1) .o) 141 (false,1) (.n (.n .o 142 (false,1) .o) 143 (false,1) .o))) 145 (false,1) (.n (.n (.n (.n .o 147 (false,1) .o) 148 (false,1) .o) 149 (false,1) (.n (.n .o 150 (true,1) .o) 151 (true,1) .o)) 154 (false,1) (.n (.n (.n .o 155 (false,1) .o) 156 (false,1) .o) 157 (false,1) (.n .o 158 (false,1) .o))))) 159 (true,8) (.n (.n (.n (.n (.n (.n .o 160 (true,8) .o) 161 (false,1) .o) 162 (false,1) (.n (.n .o 163 (false,1) .o) 164 (false,1) .o)) 165 (false,1) (.n (.n (.n .o 167 (false,1) .o) 168 (false,1) .o) 169 (true,3) (.n (.n .o 170 (true,3) .o) 171 (true,3) .o))) 172 (true,3) (.n (.n (.n (.n .o 173 (false,1) .o) 174 (true,2) .o) 175 (true,2) (.n (.n .o 176 (true,3) .o) 177 (true,3) .o)) 178 (false,1) (.n (.n (.n .o 179 (false,1) .o) 180 (false,1) .o) 181 (false,1) (.n .o 182 (false,1) .o)))) 183 (false,1) (.n (.n (.n (.n (.n .o 184 (false,1) .o) 185 (false,1) .o) 186 (true,8) (.n (.n .o 187 (false,1) .o) 188 (false,1) .o)) 189 (false,1) (.n (.n (.n .o 190 (false,1) .o) 191 (false,1) .o) 192 (false,1) (.n (.n .o 193 (false,1) .o) 194 (false,1) .o))) 195 (false,1) (.n (.n (.n (.n .o 196 (false,1) .o) 197 (false,1) .o) 198 (false,1) (.n (.n .o 199 (false,1) .o) 200 (false,1) .o)) 201 (false,1) (.n (.n (.n .o 202 (false,1) .o) 203 (false,1) .o) 204 (false,1) (.n .o 205 (false,1) .o))))))) 206 (false,1) (.n (.n (.n (.n (.n (.n (.n (.n .o 207 (false,1) .o) 208 (false,1) .o) 209 (false,1) (.n (.n .o 211 (false,1) .o) 212 (false,1) .o)) 213 (false,1) (.n (.n (.n .o 214 (false,1) .o) 215 (false,1) .o) 216 (false,1) (.n (.n .o 218 (false,1) .o) 219 (false,1) .o))) 220 (false,1) (.n (.n (.n (.n .o 221 (false,1) .o) 222 (false,1) .o) 223 (false,1) (.n (.n .o 224 (false,1) .o) 225 (false,1) .o)) 226 (false,1) (.n (.n (.n .o 227 (true,0) .o) 228 (true,0) .o) 230 (false,1) (.n (.n .o 231 (false,1) .o) 232 (false,1) .o)))) 233 (false,1) (.n (.n (.n (.n (.n .o 234 (false,1) .o) 235 (false,1) .o) 236 (false,1) (.n (.n .o 237 (false,1) .o) 238 (false,1) .o)) 239 (false,1) (.n (.n (.n .o 240 (false,1) .o) 241 (false,1) .o) 242 (false,1) (.n (.n .o 243 (false,1) .o) 244 (false,1) .o))) 246 (false,1) (.n (.n (.n (.n .o 247 (true,2) .o) 248 (false,1) .o) 251 (false,1) (.n (.n .o 254 (false,1) .o) 256 (false,1) .o)) 258 (false,1) (.n (.n (.n .o 259 (false,1) .o) 260 (false,1) .o) 261 (false,1) (.n .o 262 (false,1) .o))))) 263 (false,1) (.n (.n (.n (.n (.n (.n .o 264 (false,1) .o) 265 (false,1) .o) 266 (true,3) (.n (.n .o 267 (true,3) .o) 268 (false,1) .o)) 269 (false,1) (.n (.n (.n .o 270 (false,1) .o) 271 (false,1) .o) 272 (false,1) (.n (.n .o 273 (false,1) .o) 274 (false,1) .o))) 275 (false,1) (.n (.n (.n (.n .o 277 (false,1) .o) 278 (false,1) .o) 279 (false,1) (.n (.n .o 280 (true,11) .o) 281 (true,11) .o)) 282 (false,1) (.n (.n (.n .o 283 (false,1) .o) 284 (false,1) .o) 285 (false,1) (.n .o 286 (false,1) .o)))) 287 (false,1) (.n (.n (.n (.n (.n .o 288 (false,1) .o) 290 (false,1) .o) 291 (false,1) (.n (.n .o 292 (false,1) .o) 293 (false,1) .o)) 294 (false,1) (.n (.n (.n .o 295 (false,1) .o) 296 (false,1) .o) 297 (false,1) (.n (.n .o 298 (false,1) .o) 299 (false,1) .o))) 300 (false,1) (.n (.n (.n (.n .o 301 (false,1) .o) 302 (false,1) .o) 303 (false,1) (.n (.n .o 304 (false,1) .o) 305 (true,256) .o)) 306 (true,256) (.n (.n (.n .o 308 (false,1) .o) 309 (false,1) .o) 310 (false,1) (.n .o 311 (false,1) .o)))))) 312 (false,1) (.n (.n (.n (.n (.n (.n (.n .o 313 (false,1) .o) 314 (false,1) .o) 315 (false,1) (.n (.n .o 316 (false,1) .o) 317 (false,1) .o)) 318 (false,1) (.n (.n (.n .o 319 (false,1) .o) 321 (false,1) .o) 322 (true,24) (.n (.n .o 323 (false,1) .o) 324 (false,1) .o))) 325 (false,1) (.n (.n (.n (.n .o 327 (false,1) .o) 328 (false,1) .o) 329 (false,1) (.n (.n .o 330 (false,1) .o) 331 (false,1) .o)) 332 (false,1) (.n (.n (.n .o 333 (false,1) .o) 334 (false,1) .o) 335 (false,1) (.n (.n .o 336 (false,1) .o) 337 (false,1) .o)))) 338 (false,1) (.n (.n (.n (.n (.n .o 339 (false,1) .o) 340 (false,1) .o) 341 (false,1) (.n (.n .o 342 (false,1) .o) 343 (false,1) .o)) 344 (false,1) (.n (.n (.n .o 345 (false,1) .o) 347 (false,1) .o) 348 (false,1) (.n (.n .o 349 (false,1) .o) 350 (false,1) .o))) 351 (false,1) (.n (.n (.n (.n .o 352 (false,1) .o) 353 (true,20) .o) 354 (false,1) (.n (.n .o 355 (true,65) .o) 356 (false,1) .o)) 357 (false,1) (.n (.n (.n .o 358 (false,1) .o) 359 (false,1) .o) 360 (true,256) (.n .o 361 (true,2) .o))))) 362 (true,2) (.n (.n (.n (.n (.n (.n .o 363 (true,32) .o) 365 (false,1) .o) 366 (false,1) (.n (.n .o 367 (false,1) .o) 369 (false,1) .o)) 370 (true,3) (.n (.n (.n .o 371 (true,3) .o) 372 (false,1) .o) 373 (false,1) (.n (.n .o 374 (false,1) .o) 375 (false,1) .o))) 376 (true,1) (.n (.n (.n (.n .o 377 (true,1) .o) 378 (true,10) .o) 379 (true,32) (.n (.n .o 380 (true,64) .o) 381 (true,4) .o)) 382 (true,4) (.n (.n (.n .o 383 (true,0) .o) 384 (true,0) .o) 385 (true,0) (.n .o 386 (false,1) .o)))) 387 (false,1) (.n (.n (.n (.n (.n .o 388 (false,1) .o) 389 (false,1) .o) 390 (false,1) (.n (.n .o 391 (true,11) .o) 392 (true,11) .o)) 393 (false,1) (.n (.n (.n .o 394 (false,1) .o) 395 (false,1) .o) 396 (false,1) (.n (.n .o 397 (false,1) .o) 398 (false,1) .o))) 399 (true,2) (.n (.n (.n (.n .o 400 (true,2) .o) 401 (false,1) .o) 402 (false,1) (.n (.n .o 403 (false,1) .o) 404 (true,5) .o)) 405 (true,5) (.n (.n (.n .o 406 (false,1) .o) 407 (false,1) .o) 408 (true,4) (.n .o 409 (true,4) .o))))))))
 st:=(.n (.n (.n (.n (.n .o 23 (9,1,16) .o) 24 (105,4,40) .o) 25 (170,3,48) (.n (.n .o 26 (172,3,40) .o) 27 (160,8,152) .o)) 28 (177,3,40) (.n (.n (.n .o 29 (103,3,24) .o) 30 (103,3,24) .o) 33 (85,2,16) (.n .o 34 (48,1,24) .o))) 35 (91,11,128) (.n (.n (.n (.n .o 48 (3,1,8) .o) 51 (4,1,1) .o) 58 (131,3,24) (.n (.n .o 95 (5,1,1) .o) 148 (71,1,16) .o)) 158 (175,2,16) (.n (.n (.n .o 178 (23,1,24) .o) 187 (190,1,8) .o) 216 (89,7,72) (.n .o 406 (409,4,16) .o))))
 fk:=by kernel_rfl
 kk:=by kernel_rfl
 sk:=by kernel_rfl
theorem tk71:tk prog 71=some (false,1):=by kernel_rfl
theorem zv71:zv prog 71=some [.nilIface]:=by kernel_rfl
end Go.Proofs.YtllebkdchemabaaGreatDoor
