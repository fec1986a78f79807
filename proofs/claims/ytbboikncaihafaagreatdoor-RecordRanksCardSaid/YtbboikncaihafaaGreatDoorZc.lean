/- Merged texts of this proof (walks and plain laws), printed by a program of the prover. -/
import Derived.Test.YtbboikncaihafaaGreatDoorZb
import Derived.Test.YtbboikncaihafaaGreatDoorProg
import Derived.KernelRfl
namespace Go.Proofs.YtbboikncaihafaaGreatDoor
open Go.Proofs
theorem Jah:Tryz.prog.follows .mixedOrders=true:=by kernel_rfl
theorem tk3:tk Tryz.prog 3=some (false,1):=by kernel_rfl
theorem tk4:tk Tryz.prog 4=some (false,1):=by kernel_rfl
theorem tk9:tk Tryz.prog 9=some (false,1):=by kernel_rfl
theorem tk22:tk Tryz.prog 22=some (false,1):=by kernel_rfl
theorem tk29:tk Tryz.prog 29=some (false,1):=by kernel_rfl
theorem tk31:tk Tryz.prog 31=some (true,8):=by kernel_rfl
theorem tk32:tk Tryz.prog 32=some (false,1):=by kernel_rfl
theorem tk33:tk Tryz.prog 33=some (false,1):=by kernel_rfl
theorem tk34:tk Tryz.prog 34=some (false,1):=by kernel_rfl
theorem tk36:tk Tryz.prog 36=some (true,12):=by kernel_rfl
theorem tk42:tk Tryz.prog 42=some (false,1):=by kernel_rfl
theorem tk44:tk Tryz.prog 44=some (true,3):=by kernel_rfl
theorem tk47:tk Tryz.prog 47=some (true,4):=by kernel_rfl
theorem tk54:tk Tryz.prog 54=some (true,3):=by kernel_rfl
theorem tk84:tk Tryz.prog 84=some (true,7):=by kernel_rfl
theorem tk92:tk Tryz.prog 92=some (true,7):=by kernel_rfl
theorem J9x:tk Tryz.prog 173=some (true,8):=by kernel_rfl
theorem Kcy:tk Tryz.prog 250=some (false,1):=by kernel_rfl
theorem zv3:zv Tryz.prog 3=some [.int .i64 0]:=by kernel_rfl
theorem zv4:zv Tryz.prog 4=some [.bool false]:=by kernel_rfl
theorem zv9:zv Tryz.prog 9=some [.string ⟨#[]⟩]:=by kernel_rfl
theorem zv31:zv Tryz.prog 31=some [.slice none 0 0,.slice none 0 0,.slice none 0 0,.slice none 0 0,.slice none 0 0,.slice none 0 0,.int .i64 0,.slice none 0 0]:=by kernel_rfl
theorem zv36:zv Tryz.prog 36=some [.slice none 0 0,.slice none 0 0,.slice none 0 0,.slice none 0 0,.slice none 0 0,.slice none 0 0,.int .i64 0,.slice none 0 0,.slice none 0 0,.slice none 0 0,.slice none 0 0,.int .i64 0]:=by kernel_rfl
theorem zv42:zv Tryz.prog 42=some [.slice none 0 0]:=by kernel_rfl
theorem zv44:zv Tryz.prog 44=some [.slice none 0 0,.slice none 0 0,.slice none 0 0]:=by kernel_rfl
theorem zv47:zv Tryz.prog 47=some (List.replicate 4 (.slice none 0 0)):=by kernel_rfl
theorem zv54:zv Tryz.prog 54=some [.int .i64 0,.int .i64 0,.int .i64 0]:=by kernel_rfl
theorem zv67:zv Tryz.prog 67=some [.slice none 0 0]:=by kernel_rfl
theorem zv84:zv Tryz.prog 84=some (List.replicate 7 (.int .i64 0)):=by kernel_rfl
theorem zv90:zv Tryz.prog 90=some [.int .i64 0,.int .i64 0]:=by kernel_rfl
theorem zv92:zv Tryz.prog 92=some [.int .i64 0,.int .i64 0,.int .i64 0,.int .i64 0,.int .i64 0,.slice none 0 0,.bool false]:=by kernel_rfl
theorem zv94:zv Tryz.prog 94=some [.string ⟨#[]⟩,.int .i64 0,.int .i64 0,.slice none 0 0,.int .i64 0,.int .i64 0,.int .i64 0,.int .i64 0,.int .i64 0,.slice none 0 0,.bool false]:=by kernel_rfl
theorem zv97:zv Tryz.prog 97=some [.string ⟨#[]⟩,.int .i64 0,.int .i64 0,.int .i64 0]:=by kernel_rfl
theorem J1b:zv Tryz.prog 107=some [.slice none 0 0,.slice none 0 0,.slice none 0 0,.slice none 0 0,.slice none 0 0,.slice none 0 0,.int .i64 0,.slice none 0 0,.slice none 0 0,.slice none 0 0,.slice none 0 0,.int .i64 0,.slice none 0 0,.slice none 0 0,.slice none 0 0,.slice none 0 0,.map none]:=by kernel_rfl
theorem J58:zv Tryz.prog 142=some (List.replicate 4 (.int .i64 0)):=by kernel_rfl
theorem J6v:zv Tryz.prog 150=some [.pointer none]:=by kernel_rfl
theorem Kce:zv Tryz.prog 166=some [.slice none 0 0,.slice none 0 0,.slice none 0 0,.slice none 0 0,.slice none 0 0,.slice none 0 0,.int .i64 0,.slice none 0 0,.slice none 0 0,.slice none 0 0,.slice none 0 0,.int .i64 0,.slice none 0 0,.slice none 0 0,.slice none 0 0,.slice none 0 0,.bool false,.int .i64 0,.int .i64 0,.int .i64 0,.int .i64 0]:=by kernel_rfl
theorem Jql:zv Tryz.prog 168=some [.string ⟨#[]⟩,.int .i64 0,.slice none 0 0]:=by kernel_rfl
theorem Jnw:zv Tryz.prog 170=some [.int .i64 0,.int .i64 0,.slice none 0 0]:=by kernel_rfl
theorem Jh1:zv Tryz.prog 173=some [.string ⟨#[]⟩,.int .i64 0,.int .i64 0,.slice none 0 0,.slice none 0 0,.slice none 0 0,.slice none 0 0,.slice none 0 0]:=by kernel_rfl
theorem Job:zv Tryz.prog 175=some [.int .i64 0,.int .i64 0]:=by kernel_rfl
theorem J04:zv Tryz.prog 177=some [.slice none 0 0,.int .i64 0,.int .i64 0]:=by kernel_rfl
theorem Kc9:zv Tryz.prog 195=some [.nilFunc]:=by kernel_rfl
theorem Kde:zv Tryz.prog 200=some [.slice none 0 0,.slice none 0 0,.slice none 0 0,.slice none 0 0,.slice none 0 0,.slice none 0 0,.int .i64 0,.slice none 0 0,.slice none 0 0,.slice none 0 0,.slice none 0 0]:=by kernel_rfl
theorem Jk8:zv Tryz.prog 206=some [.int .i64 0,.int .i64 0,.bool false]:=by kernel_rfl
theorem Kb5:zv Tryz.prog 211=some [.slice none 0 0,.slice none 0 0,.slice none 0 0,.slice none 0 0,.slice none 0 0,.slice none 0 0,.int .i64 0,.slice none 0 0,.slice none 0 0,.slice none 0 0,.slice none 0 0,.int .i64 0,.slice none 0 0,.slice none 0 0,.slice none 0 0,.slice none 0 0,.bool false,.int .i64 0]:=by kernel_rfl
theorem J7v:zv Tryz.prog 307=some (List.replicate 10 (.int .i64 0)):=by kernel_rfl
theorem sl22:sl Tryz.prog 22=some (9,1,16):=by kernel_rfl
theorem sl23:sl Tryz.prog 23=some (97,4,40):=by kernel_rfl
theorem sl24:sl Tryz.prog 24=some (168,3,48):=by kernel_rfl
theorem sl25:sl Tryz.prog 25=some (170,3,40):=by kernel_rfl
theorem sl26:sl Tryz.prog 26=some (173,8,152):=by kernel_rfl
theorem sl27:sl Tryz.prog 27=some (177,3,40):=by kernel_rfl
theorem sl29:sl Tryz.prog 29=some (206,3,24):=by kernel_rfl
theorem sl32:sl Tryz.prog 32=some (90,2,16):=by kernel_rfl
theorem sl33:sl Tryz.prog 33=some (42,1,24):=by kernel_rfl
theorem sl34:sl Tryz.prog 34=some (94,11,128):=by kernel_rfl
theorem sl37:sl Tryz.prog 37=some (54,3,24):=by kernel_rfl
theorem sl42:sl Tryz.prog 42=some (3,1,8):=by kernel_rfl
theorem sl45:sl Tryz.prog 45=some (4,1,1):=by kernel_rfl
theorem sl67:sl Tryz.prog 67=some (84,7,56):=by kernel_rfl
theorem sl73:sl Tryz.prog 73=some (67,1,24):=by kernel_rfl
theorem sl99:sl Tryz.prog 99=some (92,7,72):=by kernel_rfl
theorem Kdb:sl Tryz.prog 143=some (142,4,32):=by kernel_rfl
theorem Jyl:sl Tryz.prog 171=some (175,2,16):=by kernel_rfl
theorem Jgw:arr Tryz.prog 307=some (10,1):=by kernel_rfl
theorem J8y:plc Tryz.prog 31=some [(0,1),(1,1),(2,1),(3,1),(4,1),(5,1),(6,1),(7,1)]:=by kernel_rfl
theorem Kbi:plc Tryz.prog 36=some [(0,8),(8,1),(9,1),(10,1),(11,1)]:=by kernel_rfl
theorem Jgu:plc Tryz.prog 44=some [(0,1),(1,1),(2,1)]:=by kernel_rfl
theorem Jen:plc Tryz.prog 47=some [(0,3),(3,1)]:=by kernel_rfl
theorem J1t:plc Tryz.prog 54=some [(0,1),(1,1),(2,1)]:=by kernel_rfl
theorem Jk9:plc Tryz.prog 84=some [(0,1),(1,1),(2,3),(5,1),(6,1)]:=by kernel_rfl
theorem Kc5:plc Tryz.prog 90=some [(0,1),(1,1)]:=by kernel_rfl
theorem J01:plc Tryz.prog 92=some [(0,1),(1,1),(2,1),(3,1),(4,1),(5,1),(6,1)]:=by kernel_rfl
theorem J4t:plc Tryz.prog 94=some [(0,1),(1,1),(2,1),(3,1),(4,7)]:=by kernel_rfl
theorem J74:plc Tryz.prog 97=some [(0,1),(1,1),(2,1),(3,1)]:=by kernel_rfl
theorem Js8:plc Tryz.prog 107=some [(0,12),(12,4),(16,1)]:=by kernel_rfl
theorem J84:plc Tryz.prog 142=some [(0,1),(1,3)]:=by kernel_rfl
theorem J7q:plc Tryz.prog 166=some [(0,12),(12,4),(16,1),(17,1),(18,1),(19,1),(20,1)]:=by kernel_rfl
theorem J9p:plc Tryz.prog 168=some [(0,1),(1,1),(2,1)]:=by kernel_rfl
theorem Kbt:plc Tryz.prog 170=some [(0,1),(1,1),(2,1)]:=by kernel_rfl
theorem J3u:plc Tryz.prog 173=some [(0,1),(1,1),(2,1),(3,1),(4,1),(5,1),(6,1),(7,1)]:=by kernel_rfl
theorem J4c:plc Tryz.prog 175=some [(0,1),(1,1)]:=by kernel_rfl
theorem J9j:plc Tryz.prog 200=some [(0,8),(8,3)]:=by kernel_rfl
theorem Jvy:plc Tryz.prog 206=some [(0,1),(1,1),(2,1)]:=by kernel_rfl
theorem J9z:plc Tryz.prog 211=some [(0,12),(12,4),(16,1),(17,1)]:=by kernel_rfl
theorem ent7:Ent Tryz.prog 7:=Jaa Tryz.func7 (by kernel_rfl) rfl
theorem J0e:Ent Tryz.prog 10:=Jaa Tryz.func10 (by kernel_rfl) rfl
theorem Ka9:Ent Tryz.prog 11:=Jaa Tryz.func11 (by kernel_rfl) rfl
theorem Kc2:Ent Tryz.prog 12:=Jaa Tryz.func12 (by kernel_rfl) rfl
theorem Kam:Ent Tryz.prog 13:=Jaa Tryz.func13 (by kernel_rfl) rfl
theorem J0g:Ent Tryz.prog 15:=Jaa Tryz.func15 (by kernel_rfl) rfl
theorem Jhz:Ent Tryz.prog 21:=Jaa Tryz.func21 (by kernel_rfl) rfl
theorem Jhr:Ent Tryz.prog 23:=Jaa Tryz.func23 (by kernel_rfl) rfl
theorem Kb0:Ent Tryz.prog 31:=Jaa Tryz.func31 (by kernel_rfl) rfl
theorem Kcb:Ent Tryz.prog 38:=Jaa Tryz.func38 (by kernel_rfl) rfl
theorem J46:Ent Tryz.prog 39:=Jaa Tryz.func39 (by kernel_rfl) rfl
theorem Kcf:Ent Tryz.prog 40:=Jaa Tryz.func40 (by kernel_rfl) rfl
theorem Kb8:Ent Tryz.prog 41:=Jaa Tryz.func41 (by kernel_rfl) rfl
theorem Kca:Ent Tryz.prog 42:=Jaa Tryz.func42 (by kernel_rfl) rfl
theorem Ka6:Ent Tryz.prog 43:=Jaa Tryz.func43 (by kernel_rfl) rfl
theorem Kcn:Ent Tryz.prog 44:=Jaa Tryz.func44 (by kernel_rfl) rfl
theorem Jjb:Ent Tryz.prog 45:=Jaa Tryz.func45 (by kernel_rfl) rfl
theorem J7d:Ent Tryz.prog 46:=Jaa Tryz.func46 (by kernel_rfl) rfl
theorem Kbj:Ent Tryz.prog 47:=Jaa Tryz.func47 (by kernel_rfl) rfl
theorem Kck:Ent Tryz.prog 48:=Jaa Tryz.func48 (by kernel_rfl) rfl
theorem J2l:Ent Tryz.prog 60:=Jaa Tryz.func60 (by kernel_rfl) rfl
theorem Jwg:Ent Tryz.prog 61:=Jaa Tryz.func61 (by kernel_rfl) rfl
theorem J0n:Ent Tryz.prog 62:=Jaa Tryz.func62 (by kernel_rfl) rfl
theorem Kcm:Ent Tryz.prog 64:=Jaa Tryz.func64 (by kernel_rfl) rfl
theorem Kc7:Ent Tryz.prog 65:=Jaa Tryz.func65 (by kernel_rfl) rfl
theorem Kcx:Ent Tryz.prog 66:=Jaa Tryz.func66 (by kernel_rfl) rfl
theorem J73:Ent Tryz.prog 68:=Jaa Tryz.func68 (by kernel_rfl) rfl
theorem Jmb:Ent Tryz.prog 73:=Jaa Tryz.func73 (by kernel_rfl) rfl
theorem Jqz:Ent Tryz.prog 74:=Jaa Tryz.func74 (by kernel_rfl) rfl
theorem Kbe:Ent Tryz.prog 75:=Jaa Tryz.func75 (by kernel_rfl) rfl
theorem Jk7:Ent Tryz.prog 77:=Jaa Tryz.func77 (by kernel_rfl) rfl
theorem J6g:Ent Tryz.prog 80:=Jaa Tryz.func80 (by kernel_rfl) rfl
theorem J1w:Ent Tryz.prog 81:=Jaa Tryz.func81 (by kernel_rfl) rfl
theorem Jv7:Ent Tryz.prog 82:=Jaa Tryz.func82 (by kernel_rfl) rfl
theorem J47:Ent Tryz.prog 87:=Jaa Tryz.func87 (by kernel_rfl) rfl
theorem Jhy:Ent Tryz.prog 89:=Jaa Tryz.func89 (by kernel_rfl) rfl
theorem Jxt:Ent Tryz.prog 90:=Jaa Tryz.func90 (by kernel_rfl) rfl
theorem J6y:Ent Tryz.prog 91:=Jaa Tryz.func91 (by kernel_rfl) rfl
theorem Jq2:Ent Tryz.prog 92:=Jaa Tryz.func92 (by kernel_rfl) rfl
theorem Jid:Ent Tryz.prog 93:=Jaa Tryz.func93 (by kernel_rfl) rfl
theorem Jud:Ent Tryz.prog 94:=Jaa Tryz.func94 (by kernel_rfl) rfl
theorem Kb6:Ent Tryz.prog 95:=Jaa Tryz.func95 (by kernel_rfl) rfl
theorem J0m:Ent Tryz.prog 96:=Jaa Tryz.func96 (by kernel_rfl) rfl
theorem Kcc:Ent Tryz.prog 97:=Jaa Tryz.func97 (by kernel_rfl) rfl
theorem Kdf:Ent Tryz.prog 98:=Jaa Tryz.func98 (by kernel_rfl) rfl
theorem Jwh:Ent Tryz.prog 99:=Jaa Tryz.func99 (by kernel_rfl) rfl
theorem Jv2:Ent Tryz.prog 100:=Jaa Tryz.func100 (by kernel_rfl) rfl
theorem Jzq:Ent Tryz.prog 101:=Jaa Tryz.func101 (by kernel_rfl) rfl
theorem Jsq:Ent Tryz.prog 102:=Jaa Tryz.func102 (by kernel_rfl) rfl
theorem J3y:Ent Tryz.prog 103:=Jaa Tryz.func103 (by kernel_rfl) rfl
theorem Kab:Ent Tryz.prog 104:=Jaa Tryz.func104 (by kernel_rfl) rfl
theorem J8v:Ent Tryz.prog 105:=Jaa Tryz.func105 (by kernel_rfl) rfl
theorem Jj6:Ent Tryz.prog 106:=Jaa Tryz.func106 (by kernel_rfl) rfl
theorem Kbd:Ent Tryz.prog 107:=Jaa Tryz.func107 (by kernel_rfl) rfl
theorem J3e:Ent Tryz.prog 108:=Jaa Tryz.func108 (by kernel_rfl) rfl
theorem Jl9:Ent Tryz.prog 109:=Jaa Tryz.func109 (by kernel_rfl) rfl
theorem J31:Ent Tryz.prog 110:=Jaa Tryz.func110 (by kernel_rfl) rfl
theorem J9d:Ent Tryz.prog 111:=Jaa Tryz.func111 (by kernel_rfl) rfl
theorem Jsr:Ent Tryz.prog 112:=Jaa Tryz.func112 (by kernel_rfl) rfl
theorem Js9:Ent Tryz.prog 118:=Jaa Tryz.func118 (by kernel_rfl) rfl
theorem Jdy:Ent Tryz.prog 119:=Jaa Tryz.func119 (by kernel_rfl) rfl
theorem Kan:Ent Tryz.prog 120:=Jaa Tryz.func120 (by kernel_rfl) rfl
theorem Jo7:Ent Tryz.prog 122:=Jaa Tryz.func122 (by kernel_rfl) rfl
theorem Jot:Ent Tryz.prog 123:=Jaa Tryz.func123 (by kernel_rfl) rfl
theorem Jw8:Ent Tryz.prog 124:=Jaa Tryz.func124 (by kernel_rfl) rfl
theorem Js0:Ent Tryz.prog 125:=Jaa Tryz.func125 (by kernel_rfl) rfl
theorem J77:Ent Tryz.prog 126:=Jaa Tryz.func126 (by kernel_rfl) rfl
theorem Jjv:Ent Tryz.prog 127:=Jaa Tryz.func127 (by kernel_rfl) rfl
theorem J30:Ent Tryz.prog 128:=Jaa Tryz.func128 (by kernel_rfl) rfl
theorem J37:Ent Tryz.prog 129:=Jaa Tryz.func129 (by kernel_rfl) rfl
theorem Kby:Ent Tryz.prog 130:=Jaa Tryz.func130 (by kernel_rfl) rfl
theorem J3m:Ent Tryz.prog 131:=Jaa Tryz.func131 (by kernel_rfl) rfl
theorem J25:Ent Tryz.prog 134:=Jaa Tryz.func134 (by kernel_rfl) rfl
theorem J33:Ent Tryz.prog 135:=Jaa Tryz.func135 (by kernel_rfl) rfl
theorem Kaw:Ent Tryz.prog 137:=Jaa Tryz.func137 (by kernel_rfl) rfl
theorem J3k:Ent Tryz.prog 138:=Jaa Tryz.func138 (by kernel_rfl) rfl
theorem J3z:Ent Tryz.prog 141:=Jaa Tryz.func141 (by kernel_rfl) rfl
theorem J8b:Ent Tryz.prog 142:=Jaa Tryz.func142 (by kernel_rfl) rfl
theorem Jy8:Ent Tryz.prog 143:=Jaa Tryz.func143 (by kernel_rfl) rfl
theorem J3q:Ent Tryz.prog 144:=Jaa Tryz.func144 (by kernel_rfl) rfl
theorem J7j:Ent Tryz.prog 145:=Jaa Tryz.func145 (by kernel_rfl) rfl
theorem Kao:Ent Tryz.prog 146:=Jaa Tryz.func146 (by kernel_rfl) rfl
theorem J3d:Ent Tryz.prog 147:=Jaa Tryz.func147 (by kernel_rfl) rfl
theorem J9u:Ent Tryz.prog 148:=Jaa Tryz.func148 (by kernel_rfl) rfl
theorem Js3:Ent Tryz.prog 149:=Jaa Tryz.func149 (by kernel_rfl) rfl
theorem Kbg:Ent Tryz.prog 150:=Jaa Tryz.func150 (by kernel_rfl) rfl
theorem Kbo:Ent Tryz.prog 151:=Jaa Tryz.func151 (by kernel_rfl) rfl
theorem Kbf:Ent Tryz.prog 152:=Jaa Tryz.func152 (by kernel_rfl) rfl
theorem J7p:Ent Tryz.prog 153:=Jaa Tryz.func153 (by kernel_rfl) rfl
theorem J83:Ent Tryz.prog 154:=Jaa Tryz.func154 (by kernel_rfl) rfl
theorem Ka1:Ent Tryz.prog 155:=Jaa Tryz.func155 (by kernel_rfl) rfl
theorem Jlz:Ent Tryz.prog 156:=Jaa Tryz.func156 (by kernel_rfl) rfl
theorem J70:Ent Tryz.prog 157:=Jaa Tryz.func157 (by kernel_rfl) rfl
theorem Jgz:Ent Tryz.prog 158:=Jaa Tryz.func158 (by kernel_rfl) rfl
theorem J95:Ent Tryz.prog 159:=Jaa Tryz.func159 (by kernel_rfl) rfl
theorem Kbm:Ent Tryz.prog 160:=Jaa Tryz.func160 (by kernel_rfl) rfl
theorem J91:Ent Tryz.prog 161:=Jaa Tryz.func161 (by kernel_rfl) rfl
theorem Kac:Ent Tryz.prog 162:=Jaa Tryz.func162 (by kernel_rfl) rfl
theorem J8c:Ent Tryz.prog 163:=Jaa Tryz.func163 (by kernel_rfl) rfl
theorem J9e:Ent Tryz.prog 164:=Jaa Tryz.func164 (by kernel_rfl) rfl
theorem Jxx:Ent Tryz.prog 165:=Jaa Tryz.func165 (by kernel_rfl) rfl
theorem Kb1:Ent Tryz.prog 166:=Jaa Tryz.func166 (by kernel_rfl) rfl
theorem J8h:Ent Tryz.prog 167:=Jaa Tryz.func167 (by kernel_rfl) rfl
theorem Kar:Ent Tryz.prog 168:=Jaa Tryz.func168 (by kernel_rfl) rfl
theorem Kas:Ent Tryz.prog 169:=Jaa Tryz.func169 (by kernel_rfl) rfl
theorem Kbw:Ent Tryz.prog 171:=Jaa Tryz.func171 (by kernel_rfl) rfl
theorem Ka3:Ent Tryz.prog 172:=Jaa Tryz.func172 (by kernel_rfl) rfl
theorem J3b:Ent Tryz.prog 173:=Jaa Tryz.func173 (by kernel_rfl) rfl
theorem J80:Ent Tryz.prog 174:=Jaa Tryz.func174 (by kernel_rfl) rfl
theorem J7n:Ent Tryz.prog 177:=Jaa Tryz.func177 (by kernel_rfl) rfl
theorem J3f:Ent Tryz.prog 180:=Jaa Tryz.func180 (by kernel_rfl) rfl
theorem J9w:Ent Tryz.prog 181:=Jaa Tryz.func181 (by kernel_rfl) rfl
theorem J3v:Ent Tryz.prog 182:=Jaa Tryz.func182 (by kernel_rfl) rfl
theorem Kai:Ent Tryz.prog 183:=Jaa Tryz.func183 (by kernel_rfl) rfl
theorem J3g:Ent Tryz.prog 184:=Jaa Tryz.func184 (by kernel_rfl) rfl
theorem Kay:Ent Tryz.prog 186:=Jaa Tryz.func186 (by kernel_rfl) rfl
theorem Kbv:Ent Tryz.prog 187:=Jaa Tryz.func187 (by kernel_rfl) rfl
theorem J3i:Ent Tryz.prog 188:=Jaa Tryz.func188 (by kernel_rfl) rfl
theorem Ji4:Ent Tryz.prog 189:=Jaa Tryz.func189 (by kernel_rfl) rfl
theorem Jwi:Ent Tryz.prog 190:=Jaa Tryz.func190 (by kernel_rfl) rfl
theorem J39:Ent Tryz.prog 191:=Jaa Tryz.func191 (by kernel_rfl) rfl
theorem Kad:Ent Tryz.prog 192:=Jaa Tryz.func192 (by kernel_rfl) rfl
theorem J98:Ent Tryz.prog 193:=Jaa Tryz.func193 (by kernel_rfl) rfl
theorem J7t:Ent Tryz.prog 194:=Jaa Tryz.func194 (by kernel_rfl) rfl
theorem Jrr:Ent Tryz.prog 195:=Jaa Tryz.func195 (by kernel_rfl) rfl
theorem J9v:Ent Tryz.prog 196:=Jaa Tryz.func196 (by kernel_rfl) rfl
theorem Kbq:Ent Tryz.prog 197:=Jaa Tryz.func197 (by kernel_rfl) rfl
theorem J75:Ent Tryz.prog 198:=Jaa Tryz.func198 (by kernel_rfl) rfl
theorem Kag:Ent Tryz.prog 199:=Jaa Tryz.func199 (by kernel_rfl) rfl
theorem Kbu:Ent Tryz.prog 200:=Jaa Tryz.func200 (by kernel_rfl) rfl
theorem Kbx:Ent Tryz.prog 201:=Jaa Tryz.func201 (by kernel_rfl) rfl
theorem Jzl:Ent Tryz.prog 202:=Jaa Tryz.func202 (by kernel_rfl) rfl
theorem J32:Ent Tryz.prog 203:=Jaa Tryz.func203 (by kernel_rfl) rfl
theorem J9h:Ent Tryz.prog 204:=Jaa Tryz.func204 (by kernel_rfl) rfl
theorem J7x:Ent Tryz.prog 205:=Jaa Tryz.func205 (by kernel_rfl) rfl
theorem J9t:Ent Tryz.prog 206:=Jaa Tryz.func206 (by kernel_rfl) rfl
theorem J76:Ent Tryz.prog 207:=Jaa Tryz.func207 (by kernel_rfl) rfl
theorem J8n:Ent Tryz.prog 208:=Jaa Tryz.func208 (by kernel_rfl) rfl
theorem J89:Ent Tryz.prog 209:=Jaa Tryz.func209 (by kernel_rfl) rfl
theorem J9y:Ent Tryz.prog 210:=Jaa Tryz.func210 (by kernel_rfl) rfl
theorem J27:Ent Tryz.prog 211:=Jaa Tryz.func211 (by kernel_rfl) rfl
theorem J9n:Ent Tryz.prog 212:=Jaa Tryz.func212 (by kernel_rfl) rfl
theorem Kbz:Ent Tryz.prog 213:=Jaa Tryz.func213 (by kernel_rfl) rfl
theorem Kaz:Ent Tryz.prog 214:=Jaa Tryz.func214 (by kernel_rfl) rfl
theorem Jta:Ent Tryz.prog 221:=Jaa Tryz.func221 (by kernel_rfl) rfl
theorem Kat:Ent Tryz.prog 222:=Jaa Tryz.func222 (by kernel_rfl) rfl
theorem J8p:Ent Tryz.prog 223:=Jaa Tryz.func223 (by kernel_rfl) rfl
theorem Jvp:Ent Tryz.prog 224:=Jaa Tryz.func224 (by kernel_rfl) rfl
theorem J81:Ent Tryz.prog 225:=Jaa Tryz.func225 (by kernel_rfl) rfl
theorem Jl0:Ent Tryz.prog 226:=Jaa Tryz.func226 (by kernel_rfl) rfl
theorem Jo8:Ent Tryz.prog 227:=Jaa Tryz.func227 (by kernel_rfl) rfl
theorem J9k:Ent Tryz.prog 228:=Jaa Tryz.func228 (by kernel_rfl) rfl
theorem Kav:Ent Tryz.prog 229:=Jaa Tryz.func229 (by kernel_rfl) rfl
theorem J9b:Ent Tryz.prog 230:=Jaa Tryz.func230 (by kernel_rfl) rfl
theorem J7w:Ent Tryz.prog 231:=Jaa Tryz.func231 (by kernel_rfl) rfl
theorem J8w:Ent Tryz.prog 232:=Jaa Tryz.func232 (by kernel_rfl) rfl
theorem J9g:Ent Tryz.prog 233:=Jaa Tryz.func233 (by kernel_rfl) rfl
theorem J96:Ent Tryz.prog 234:=Jaa Tryz.func234 (by kernel_rfl) rfl
theorem Kax:Ent Tryz.prog 235:=Jaa Tryz.func235 (by kernel_rfl) rfl
theorem Kbr:Ent Tryz.prog 236:=Jaa Tryz.func236 (by kernel_rfl) rfl
theorem J82:Ent Tryz.prog 237:=Jaa Tryz.func237 (by kernel_rfl) rfl
theorem J7l:Ent Tryz.prog 238:=Jaa Tryz.func238 (by kernel_rfl) rfl
theorem J8s:Ent Tryz.prog 239:=Jaa Tryz.func239 (by kernel_rfl) rfl
theorem J7u:Ent Tryz.prog 240:=Jaa Tryz.func240 (by kernel_rfl) rfl
theorem J9a:Ent Tryz.prog 241:=Jaa Tryz.func241 (by kernel_rfl) rfl
theorem J9o:Ent Tryz.prog 242:=Jaa Tryz.func242 (by kernel_rfl) rfl
theorem J8x:Ent Tryz.prog 243:=Jaa Tryz.func243 (by kernel_rfl) rfl
theorem Je7:Ent Tryz.prog 251:=Jaa Tryz.func251 (by kernel_rfl) rfl
theorem J4a:Ent Tryz.prog 252:=Jaa Tryz.func252 (by kernel_rfl) rfl
theorem Kbp:Ent Tryz.prog 253:=Jaa Tryz.func253 (by kernel_rfl) rfl
theorem J8l:Ent Tryz.prog 254:=Jaa Tryz.func254 (by kernel_rfl) rfl
theorem J3r:Ent Tryz.prog 255:=Jaa Tryz.func255 (by kernel_rfl) rfl
theorem J4f:Ent Tryz.prog 256:=Jaa Tryz.func256 (by kernel_rfl) rfl
theorem Jlx:Ent Tryz.prog 257:=Jaa Tryz.func257 (by kernel_rfl) rfl
theorem J9l:Ent Tryz.prog 258:=Jaa Tryz.func258 (by kernel_rfl) rfl
theorem J8f:Ent Tryz.prog 259:=Jaa Tryz.func259 (by kernel_rfl) rfl
theorem J4h:Ent Tryz.prog 260:=Jaa Tryz.func260 (by kernel_rfl) rfl
theorem J9s:Ent Tryz.prog 261:=Jaa Tryz.func261 (by kernel_rfl) rfl
theorem J78:Ent Tryz.prog 262:=Jaa Tryz.func262 (by kernel_rfl) rfl
theorem Kaq:Ent Tryz.prog 263:=Jaa Tryz.func263 (by kernel_rfl) rfl
theorem Ka2:Ent Tryz.prog 264:=Jaa Tryz.func264 (by kernel_rfl) rfl
theorem J34:Ent Tryz.prog 267:=Jaa Tryz.func267 (by kernel_rfl) rfl
theorem Jza:Ent Tryz.prog 268:=Jaa Tryz.func268 (by kernel_rfl) rfl
theorem J8m:Ent Tryz.prog 269:=Jaa Tryz.func269 (by kernel_rfl) rfl
theorem J7o:Ent Tryz.prog 270:=Jaa Tryz.func270 (by kernel_rfl) rfl
theorem J7m:Ent Tryz.prog 271:=Jaa Tryz.func271 (by kernel_rfl) rfl
theorem J7y:Ent Tryz.prog 272:=Jaa Tryz.func272 (by kernel_rfl) rfl
theorem J7s:Ent Tryz.prog 273:=Jaa Tryz.func273 (by kernel_rfl) rfl
theorem J8j:Ent Tryz.prog 274:=Jaa Tryz.func274 (by kernel_rfl) rfl
theorem J8d:Ent Tryz.prog 275:=Jaa Tryz.func275 (by kernel_rfl) rfl
theorem J4k:Ent Tryz.prog 276:=Jaa Tryz.func276 (by kernel_rfl) rfl
theorem J97:Ent Tryz.prog 277:=Jaa Tryz.func277 (by kernel_rfl) rfl
theorem Kau:Ent Tryz.prog 278:=Jaa Tryz.func278 (by kernel_rfl) rfl
theorem J8t:Ent Tryz.prog 279:=Jaa Tryz.func279 (by kernel_rfl) rfl
theorem J71:Ent Tryz.prog 280:=Jaa Tryz.func280 (by kernel_rfl) rfl
theorem Kaj:Ent Tryz.prog 281:=Jaa Tryz.func281 (by kernel_rfl) rfl
theorem J8r:Ent Tryz.prog 282:=Jaa Tryz.func282 (by kernel_rfl) rfl
theorem J79:Ent Tryz.prog 283:=Jaa Tryz.func283 (by kernel_rfl) rfl
instance:Fx Tryz.prog where
 ft:=(.n (.n (.n (.n (.n (.n .o 7 [0,1,2,3] .o) 8 [0,1,2,3] (.n .o 13 [0,1] .o)) 14 [0,1] (.n (.n .o 18 [0] .o) 19 [0] (.n .o 30 [0,1,2,3,4,5,6,7] .o))) 31 [0,1,2,3,4,5,6,7] (.n (.n (.n .o 35 [0,8,9,10,11] .o) 36 [0,8,9,10,11] (.n .o 43 [0,1,2] .o)) 44 [0,1,2] (.n (.n .o 46 [0,3] .o) 47 [0,3] .o))) 53 [0,1,2] (.n (.n (.n (.n .o 54 [0,1,2] .o) 83 [0,1,2,5,6] (.n .o 84 [0,1,2,5,6] .o)) 89 [0,1] (.n (.n .o 90 [0,1] .o) 91 [0,1,2,3,4,5,6] (.n .o 92 [0,1,2,3,4,5,6] .o))) 93 [0,1,2,3,4] (.n (.n (.n .o 94 [0,1,2,3,4] .o) 96 [0,1,2,3] (.n .o 97 [0,1,2,3] .o)) 106 [0,12,16] (.n (.n .o 107 [0,12,16] .o) 116 [0,8,11,14] .o)))) 117 [0,8,11,14] (.n (.n (.n (.n (.n .o 121 [0,1,2] .o) 122 [0,1,2] (.n .o 123 [0,15,16] .o)) 124 [0,15,16] (.n (.n .o 141 [0,1] .o) 142 [0,1] (.n .o 165 [0,12,16,17,18,19,20] .o))) 166 [0,12,16,17,18,19,20] (.n (.n (.n .o 167 [0,1,2] .o) 168 [0,1,2] (.n .o 169 [0,1,2] .o)) 170 [0,1,2] (.n (.n .o 172 [0,1,2,3,4,5,6,7] .o) 173 [0,1,2,3,4,5,6,7] .o))) 174 [0,1] (.n (.n (.n (.n .o 175 [0,1] .o) 176 [0,1] (.n .o 177 [0,1] .o)) 184 [0,1] (.n (.n .o 199 [0,8] .o) 200 [0,8] (.n .o 205 [0,1,2] .o))) 206 [0,1,2] (.n (.n (.n .o 210 [0,12,16,17] .o) 211 [0,12,16,17] (.n .o 319 [0,1,2,3] .o)) 320 [0,1,2,3] (.n (.n .o 331 [0,1,2,3,4,5,6,7,8,9,10] .o) 332 [0,1,2,3,4,5,6,7,8,9,10] .o)))))
 kt:=(.n (.n (.n (.n (.n (.n (.n (.n (.n .o 1 (false,1) .o) 2 (false,1) .o) 3 (false,1) (.n .o 4 (false,1) .o)) 5 (false,1) (.n (.n (.n .o 6 (false,1) .o) 7 (true,4) .o) 8 (true,4) (.n .o 9 (false,1) .o))) 10 (false,1) (.n (.n (.n (.n .o 11 (false,1) .o) 12 (false,1) .o) 13 (true,2) (.n .o 14 (true,2) .o)) 15 (false,1) (.n (.n (.n .o 16 (false,1) .o) 17 (false,1) .o) 18 (true,1) (.n .o 19 (true,1) .o)))) 21 (false,1) (.n (.n (.n (.n (.n .o 22 (false,1) .o) 23 (false,1) .o) 24 (false,1) (.n .o 25 (false,1) .o)) 26 (false,1) (.n (.n (.n .o 27 (false,1) .o) 28 (false,1) .o) 29 (false,1) (.n .o 30 (true,8) .o))) 31 (true,8) (.n (.n (.n (.n .o 32 (false,1) .o) 33 (false,1) .o) 34 (false,1) (.n .o 35 (true,12) .o)) 36 (true,12) (.n (.n .o 37 (false,1) .o) 38 (false,1) (.n .o 39 (false,1) .o))))) 40 (false,1) (.n (.n (.n (.n (.n (.n .o 41 (false,1) .o) 42 (false,1) .o) 43 (true,3) (.n .o 44 (true,3) .o)) 45 (false,1) (.n (.n (.n .o 46 (true,4) .o) 47 (true,4) .o) 48 (false,1) (.n .o 50 (false,1) .o))) 51 (false,1) (.n (.n (.n (.n .o 52 (false,1) .o) 53 (true,3) .o) 54 (true,3) (.n .o 55 (false,1) .o)) 57 (false,1) (.n (.n (.n .o 58 (false,1) .o) 60 (false,1) .o) 61 (false,1) (.n .o 62 (false,1) .o)))) 63 (false,1) (.n (.n (.n (.n (.n .o 65 (false,1) .o) 66 (false,1) .o) 67 (false,1) (.n .o 69 (false,1) .o)) 70 (false,1) (.n (.n (.n .o 71 (false,1) .o) 72 (false,1) .o) 73 (false,1) (.n .o 75 (false,1) .o))) 76 (false,1) (.n (.n (.n (.n .o 77 (false,1) .o) 79 (false,1) .o) 80 (false,1) (.n .o 81 (false,1) .o)) 82 (false,1) (.n (.n .o 83 (true,7) .o) 84 (true,7) (.n .o 86 (false,1) .o)))))) 87 (false,1) (.n (.n (.n (.n (.n (.n (.n .o 88 (false,1) .o) 89 (true,2) .o) 90 (true,2) (.n .o 91 (true,7) .o)) 92 (true,7) (.n (.n (.n .o 93 (true,11) .o) 94 (true,11) .o) 95 (false,1) (.n .o 96 (true,4) .o))) 97 (true,4) (.n (.n (.n (.n .o 98 (false,1) .o) 99 (false,1) .o) 100 (false,1) (.n .o 101 (false,1) .o)) 102 (false,1) (.n (.n (.n .o 103 (false,1) .o) 104 (false,1) .o) 105 (false,1) (.n .o 106 (true,17) .o)))) 107 (true,17) (.n (.n (.n (.n (.n .o 108 (false,1) .o) 110 (false,1) .o) 111 (false,1) (.n .o 112 (false,1) .o)) 114 (false,1) (.n (.n (.n .o 115 (false,1) .o) 116 (true,15) .o) 117 (true,15) (.n .o 118 (false,1) .o))) 119 (false,1) (.n (.n (.n (.n .o 120 (false,1) .o) 121 (true,3) .o) 122 (true,3) (.n .o 123 (true,19) .o)) 124 (true,19) (.n (.n .o 125 (false,1) .o) 126 (false,1) (.n .o 127 (false,1) .o))))) 128 (false,1) (.n (.n (.n (.n (.n (.n .o 130 (false,1) .o) 131 (false,1) .o) 132 (false,1) (.n .o 133 (false,1) .o)) 134 (false,1) (.n (.n (.n .o 135 (false,1) .o) 136 (false,1) .o) 137 (false,1) (.n .o 139 (false,1) .o))) 140 (false,1) (.n (.n (.n (.n .o 141 (true,4) .o) 142 (true,4) .o) 143 (false,1) (.n .o 144 (false,1) .o)) 145 (false,1) (.n (.n (.n .o 146 (false,1) .o) 147 (false,1) .o) 148 (false,1) (.n .o 149 (false,1) .o)))) 150 (false,1) (.n (.n (.n (.n (.n .o 152 (false,1) .o) 153 (false,1) .o) 154 (false,1) (.n .o 155 (false,1) .o)) 156 (false,1) (.n (.n (.n .o 157 (false,1) .o) 158 (false,1) .o) 160 (false,1) (.n .o 161 (false,1) .o))) 162 (false,1) (.n (.n (.n (.n .o 163 (false,1) .o) 164 (false,1) .o) 165 (true,21) (.n .o 166 (true,21) .o)) 167 (true,3) (.n (.n .o 168 (true,3) .o) 169 (true,3) (.n .o 170 (true,3) .o))))))) 171 (false,1) (.n (.n (.n (.n (.n (.n (.n (.n .o 172 (true,8) .o) 173 (true,8) .o) 174 (true,2) (.n .o 175 (true,2) .o)) 176 (true,3) (.n (.n (.n .o 177 (true,3) .o) 178 (false,1) .o) 179 (false,1) (.n .o 180 (false,1) .o))) 181 (false,1) (.n (.n (.n (.n .o 182 (false,1) .o) 183 (false,1) .o) 184 (true,2) (.n .o 185 (false,1) .o)) 186 (false,1) (.n (.n (.n .o 187 (false,1) .o) 188 (false,1) .o) 189 (false,1) (.n .o 191 (false,1) .o)))) 192 (false,1) (.n (.n (.n (.n (.n .o 193 (false,1) .o) 194 (false,1) .o) 195 (false,1) (.n .o 196 (false,1) .o)) 197 (false,1) (.n (.n (.n .o 198 (false,1) .o) 199 (true,11) .o) 200 (true,11) (.n .o 201 (false,1) .o))) 202 (false,1) (.n (.n (.n (.n .o 203 (false,1) .o) 204 (false,1) .o) 205 (true,3) (.n .o 206 (true,3) .o)) 207 (false,1) (.n (.n .o 208 (false,1) .o) 209 (false,1) (.n .o 210 (true,18) .o))))) 211 (true,18) (.n (.n (.n (.n (.n (.n .o 213 (false,1) .o) 214 (false,1) .o) 215 (false,1) (.n .o 216 (false,1) .o)) 217 (false,1) (.n (.n (.n .o 218 (false,1) .o) 219 (false,1) .o) 220 (false,1) (.n .o 221 (false,1) .o))) 222 (false,1) (.n (.n (.n (.n .o 223 (false,1) .o) 224 (false,1) .o) 225 (false,1) (.n .o 226 (false,1) .o)) 227 (false,1) (.n (.n (.n .o 228 (false,1) .o) 229 (false,1) .o) 230 (false,1) (.n .o 231 (false,1) .o)))) 232 (false,1) (.n (.n (.n (.n (.n .o 233 (false,1) .o) 234 (false,1) .o) 235 (false,1) (.n .o 236 (false,1) .o)) 237 (false,1) (.n (.n (.n .o 238 (false,1) .o) 239 (false,1) .o) 240 (false,1) (.n .o 241 (false,1) .o))) 242 (false,1) (.n (.n (.n (.n .o 243 (false,1) .o) 244 (false,1) .o) 245 (false,1) (.n .o 246 (false,1) .o)) 247 (false,1) (.n (.n .o 248 (false,1) .o) 249 (false,1) (.n .o 250 (false,1) .o)))))) 251 (false,1) (.n (.n (.n (.n (.n (.n (.n .o 252 (false,1) .o) 253 (false,1) .o) 254 (false,1) (.n .o 255 (false,1) .o)) 256 (false,1) (.n (.n (.n .o 257 (false,1) .o) 258 (false,1) .o) 259 (false,1) (.n .o 260 (false,1) .o))) 261 (false,1) (.n (.n (.n (.n .o 262 (false,1) .o) 263 (false,1) .o) 264 (false,1) (.n .o 266 (false,1) .o)) 267 (true,24) (.n (.n (.n .o 268 (false,1) .o) 269 (false,1) .o) 270 (false,1) (.n .o 271 (false,1) .o)))) 273 (false,1) (.n (.n (.n (.n (.n .o 274 (false,1) .o) 275 (false,1) .o) 276 (false,1) (.n .o 277 (false,1) .o)) 278 (false,1) (.n (.n (.n .o 279 (false,1) .o) 280 (false,1) .o) 281 (false,1) (.n .o 282 (false,1) .o))) 283 (false,1) (.n (.n (.n (.n .o 284 (false,1) .o) 285 (false,1) .o) 286 (false,1) (.n .o 287 (false,1) .o)) 288 (false,1) (.n (.n .o 289 (true,20) .o) 290 (false,1) (.n .o 291 (true,65) .o))))) 292 (false,1) (.n (.n (.n (.n (.n (.n .o 293 (false,1) .o) 295 (false,1) .o) 296 (false,1) (.n .o 297 (false,1) .o)) 298 (false,1) (.n (.n (.n .o 299 (false,1) .o) 300 (false,1) .o) 302 (false,1) (.n .o 303 (false,1) .o))) 304 (false,1) (.n (.n (.n (.n .o 305 (false,1) .o) 306 (false,1) .o) 307 (true,10) (.n .o 308 (true,32) .o)) 309 (true,64) (.n (.n (.n .o 310 (false,1) .o) 311 (false,1) .o) 312 (false,1) (.n .o 313 (false,1) .o)))) 314 (false,1) (.n (.n (.n (.n (.n .o 315 (false,1) .o) 316 (false,1) .o) 317 (false,1) (.n .o 318 (false,1) .o)) 319 (true,4) (.n (.n (.n .o 320 (true,4) .o) 321 (true,0) .o) 322 (true,0) (.n .o 323 (true,0) .o))) 324 (false,1) (.n (.n (.n (.n .o 325 (false,1) .o) 326 (false,1) .o) 327 (false,1) (.n .o 328 (false,1) .o)) 329 (false,1) (.n (.n .o 330 (false,1) .o) 331 (true,11) (.n .o 332 (true,11) .o))))))))
 st:=(.n (.n (.n (.n (.n .o 22 (9,1,16) .o) 23 (97,4,40) .o) 24 (168,3,48) (.n (.n .o 25 (170,3,40) .o) 26 (173,8,152) .o)) 27 (177,3,40) (.n (.n (.n .o 28 (206,3,24) .o) 29 (206,3,24) .o) 32 (90,2,16) (.n (.n .o 33 (42,1,24) .o) 34 (94,11,128) .o))) 37 (54,3,24) (.n (.n (.n (.n .o 42 (3,1,8) .o) 45 (4,1,1) .o) 55 (122,3,24) (.n (.n .o 67 (84,7,56) .o) 73 (67,1,24) .o)) 99 (92,7,72) (.n (.n (.n .o 125 (124,19,360) .o) 143 (142,4,32) .o) 171 (175,2,16) (.n .o 271 (5,1,1) .o))))
 fk:=by kernel_rfl
 kk:=by kernel_rfl
 sk:=by kernel_rfl
end Go.Proofs.YtbboikncaihafaaGreatDoor
