/- Merged texts of this proof (walks and plain laws), printed by a program of the prover. -/
import Derived.Test.YtbboikncaihafaaGreatDoorZb
import Derived.Test.YtbboikncaihafaaGreatDoorProg
import Derived.KernelRfl
namespace Go.Proofs.YtbboikncaihafaaGreatDoor
open Go.Proofs
theorem mixed:Tryz.prog.follows .mixedOrders=true:=by kernel_rfl
theorem tk3:tk Tryz.prog 3=some (false,1):=by kernel_rfl
theorem tk4:tk Tryz.prog 4=some (false,1):=by kernel_rfl
theorem tk9:tk Tryz.prog 9=some (false,1):=by kernel_rfl
theorem tk22:tk Tryz.prog 22=some (false,1):=by kernel_rfl
theorem tk23:tk Tryz.prog 23=some (false,1):=by kernel_rfl
theorem tk24:tk Tryz.prog 24=some (false,1):=by kernel_rfl
theorem tk25:tk Tryz.prog 25=some (false,1):=by kernel_rfl
theorem tk29:tk Tryz.prog 29=some (false,1):=by kernel_rfl
theorem tk31:tk Tryz.prog 31=some (true,8):=by kernel_rfl
theorem tk32:tk Tryz.prog 32=some (false,1):=by kernel_rfl
theorem tk33:tk Tryz.prog 33=some (false,1):=by kernel_rfl
theorem tk34:tk Tryz.prog 34=some (false,1):=by kernel_rfl
theorem tk36:tk Tryz.prog 36=some (true,12):=by kernel_rfl
theorem tk37:tk Tryz.prog 37=some (false,1):=by kernel_rfl
theorem tk42:tk Tryz.prog 42=some (false,1):=by kernel_rfl
theorem tk44:tk Tryz.prog 44=some (true,3):=by kernel_rfl
theorem tk47:tk Tryz.prog 47=some (true,4):=by kernel_rfl
theorem tk54:tk Tryz.prog 54=some (true,3):=by kernel_rfl
theorem tk92:tk Tryz.prog 92=some (true,7):=by kernel_rfl
theorem Jd7:tk Tryz.prog 117=some (true,15):=by kernel_rfl
theorem Jcn:tk Tryz.prog 122=some (true,3):=by kernel_rfl
theorem Jxw:tk Tryz.prog 170=some (true,3):=by kernel_rfl
theorem Jze:tk Tryz.prog 173=some (true,8):=by kernel_rfl
theorem J1d:tk Tryz.prog 250=some (false,1):=by kernel_rfl
theorem zv3:zv Tryz.prog 3=some [.int .i64 0]:=by kernel_rfl
theorem zv4:zv Tryz.prog 4=some [.bool false]:=by kernel_rfl
theorem zv9:zv Tryz.prog 9=some [.string ⟨#[]⟩]:=by kernel_rfl
theorem zv31:zv Tryz.prog 31=some [.slice none 0 0,.slice none 0 0,.slice none 0 0,.slice none 0 0,.slice none 0 0,.slice none 0 0,.int .i64 0,.slice none 0 0]:=by kernel_rfl
theorem zv36:zv Tryz.prog 36=some [.slice none 0 0,.slice none 0 0,.slice none 0 0,.slice none 0 0,.slice none 0 0,.slice none 0 0,.int .i64 0,.slice none 0 0,.slice none 0 0,.slice none 0 0,.slice none 0 0,.int .i64 0]:=by kernel_rfl
theorem zv37:zv Tryz.prog 37=some [.slice none 0 0]:=by kernel_rfl
theorem zv42:zv Tryz.prog 42=some [.slice none 0 0]:=by kernel_rfl
theorem zv44:zv Tryz.prog 44=some [.slice none 0 0,.slice none 0 0,.slice none 0 0]:=by kernel_rfl
theorem zv47:zv Tryz.prog 47=some (List.replicate 4 (.slice none 0 0)):=by kernel_rfl
theorem zv54:zv Tryz.prog 54=some [.int .i64 0,.int .i64 0,.int .i64 0]:=by kernel_rfl
theorem zv90:zv Tryz.prog 90=some [.int .i64 0,.int .i64 0]:=by kernel_rfl
theorem zv92:zv Tryz.prog 92=some [.int .i64 0,.int .i64 0,.int .i64 0,.int .i64 0,.int .i64 0,.slice none 0 0,.bool false]:=by kernel_rfl
theorem zv94:zv Tryz.prog 94=some [.string ⟨#[]⟩,.int .i64 0,.int .i64 0,.slice none 0 0,.int .i64 0,.int .i64 0,.int .i64 0,.int .i64 0,.int .i64 0,.slice none 0 0,.bool false]:=by kernel_rfl
theorem zv97:zv Tryz.prog 97=some [.string ⟨#[]⟩,.int .i64 0,.int .i64 0,.int .i64 0]:=by kernel_rfl
theorem Js3:zv Tryz.prog 107=some [.slice none 0 0,.slice none 0 0,.slice none 0 0,.slice none 0 0,.slice none 0 0,.slice none 0 0,.int .i64 0,.slice none 0 0,.slice none 0 0,.slice none 0 0,.slice none 0 0,.int .i64 0,.slice none 0 0,.slice none 0 0,.slice none 0 0,.slice none 0 0,.map none]:=by kernel_rfl
theorem Jwn:zv Tryz.prog 117=some [.slice none 0 0,.slice none 0 0,.slice none 0 0,.slice none 0 0,.slice none 0 0,.slice none 0 0,.int .i64 0,.slice none 0 0,.slice none 0 0,.slice none 0 0,.slice none 0 0,.slice none 0 0,.slice none 0 0,.slice none 0 0,.int .i64 0]:=by kernel_rfl
theorem Jfo:zv Tryz.prog 122=some [.int .i64 0,.int .i64 0,.int .i64 0]:=by kernel_rfl
theorem Jpo:zv Tryz.prog 124=some [.slice none 0 0,.slice none 0 0,.slice none 0 0,.slice none 0 0,.slice none 0 0,.slice none 0 0,.int .i64 0,.slice none 0 0,.slice none 0 0,.slice none 0 0,.slice none 0 0,.slice none 0 0,.slice none 0 0,.slice none 0 0,.int .i64 0,.int .i64 0,.int .i64 0,.int .i64 0,.int .i64 0]:=by kernel_rfl
theorem J1o:zv Tryz.prog 133=some [.pointer none]:=by kernel_rfl
theorem Jqg:zv Tryz.prog 168=some [.string ⟨#[]⟩,.int .i64 0,.slice none 0 0]:=by kernel_rfl
theorem Jk8:zv Tryz.prog 170=some [.int .i64 0,.int .i64 0,.slice none 0 0]:=by kernel_rfl
theorem Ji7:zv Tryz.prog 173=some [.string ⟨#[]⟩,.int .i64 0,.int .i64 0,.slice none 0 0,.slice none 0 0,.slice none 0 0,.slice none 0 0,.slice none 0 0]:=by kernel_rfl
theorem Jtj:zv Tryz.prog 175=some [.int .i64 0,.int .i64 0]:=by kernel_rfl
theorem Jv2:zv Tryz.prog 177=some [.slice none 0 0,.int .i64 0,.int .i64 0]:=by kernel_rfl
theorem J0x:zv Tryz.prog 195=some [.nilFunc]:=by kernel_rfl
theorem J1e:zv Tryz.prog 200=some [.slice none 0 0,.slice none 0 0,.slice none 0 0,.slice none 0 0,.slice none 0 0,.slice none 0 0,.int .i64 0,.slice none 0 0,.slice none 0 0,.slice none 0 0,.slice none 0 0]:=by kernel_rfl
theorem Jto:zv Tryz.prog 206=some [.int .i64 0,.int .i64 0,.bool false]:=by kernel_rfl
theorem Jxq:zv Tryz.prog 307=some (List.replicate 10 (.int .i64 0)):=by kernel_rfl
theorem sl22:sl Tryz.prog 22=some (9,1,16):=by kernel_rfl
theorem sl23:sl Tryz.prog 23=some (97,4,40):=by kernel_rfl
theorem sl24:sl Tryz.prog 24=some (168,3,48):=by kernel_rfl
theorem sl25:sl Tryz.prog 25=some (170,3,40):=by kernel_rfl
theorem sl26:sl Tryz.prog 26=some (173,8,152):=by kernel_rfl
theorem sl27:sl Tryz.prog 27=some (177,3,40):=by kernel_rfl
theorem sl29:sl Tryz.prog 29=some (206,3,24):=by kernel_rfl
theorem sl32:sl Tryz.prog 32=some (90,2,16):=by kernel_rfl
theorem sl33:sl Tryz.prog 33=some (42,1,24):=by kernel_rfl
theorem sl34:sl Tryz.prog 34=some (94,11,128):=by kernel_rfl
theorem sl37:sl Tryz.prog 37=some (54,3,24):=by kernel_rfl
theorem sl42:sl Tryz.prog 42=some (3,1,8):=by kernel_rfl
theorem sl45:sl Tryz.prog 45=some (4,1,1):=by kernel_rfl
theorem sl55:sl Tryz.prog 55=some (122,3,24):=by kernel_rfl
theorem sl99:sl Tryz.prog 99=some (92,7,72):=by kernel_rfl
theorem Jji:sl Tryz.prog 125=some (124,19,360):=by kernel_rfl
theorem Jwx:sl Tryz.prog 171=some (175,2,16):=by kernel_rfl
theorem Jel:arr Tryz.prog 307=some (10,1):=by kernel_rfl
theorem J1g:plc Tryz.prog 31=some [(0,1),(1,1),(2,1),(3,1),(4,1),(5,1),(6,1),(7,1)]:=by kernel_rfl
theorem J08:plc Tryz.prog 36=some [(0,8),(8,1),(9,1),(10,1),(11,1)]:=by kernel_rfl
theorem Jf5:plc Tryz.prog 44=some [(0,1),(1,1),(2,1)]:=by kernel_rfl
theorem Je5:plc Tryz.prog 47=some [(0,3),(3,1)]:=by kernel_rfl
theorem J1k:plc Tryz.prog 54=some [(0,1),(1,1),(2,1)]:=by kernel_rfl
theorem J0q:plc Tryz.prog 90=some [(0,1),(1,1)]:=by kernel_rfl
theorem Jyg:plc Tryz.prog 92=some [(0,1),(1,1),(2,1),(3,1),(4,1),(5,1),(6,1)]:=by kernel_rfl
theorem Jm6:plc Tryz.prog 107=some [(0,12),(12,4),(16,1)]:=by kernel_rfl
theorem Jx4:plc Tryz.prog 117=some [(0,8),(8,3),(11,3),(14,1)]:=by kernel_rfl
theorem Jmc:plc Tryz.prog 122=some [(0,1),(1,1),(2,1)]:=by kernel_rfl
theorem Jus:plc Tryz.prog 124=some [(0,15),(15,1),(16,3)]:=by kernel_rfl
theorem Jz5:plc Tryz.prog 200=some [(0,8),(8,3)]:=by kernel_rfl
theorem ent7:Ent Tryz.prog 7:=Jag Tryz.func7 (by kernel_rfl) rfl
theorem ent8:Ent Tryz.prog 8:=Jag Tryz.func8 (by kernel_rfl) rfl
theorem ent9:Ent Tryz.prog 9:=Jag Tryz.func9 (by kernel_rfl) rfl
theorem J1j:Ent Tryz.prog 10:=Jag Tryz.func10 (by kernel_rfl) rfl
theorem J0g:Ent Tryz.prog 11:=Jag Tryz.func11 (by kernel_rfl) rfl
theorem J0w:Ent Tryz.prog 12:=Jag Tryz.func12 (by kernel_rfl) rfl
theorem Jyp:Ent Tryz.prog 13:=Jag Tryz.func13 (by kernel_rfl) rfl
theorem J1m:Ent Tryz.prog 14:=Jag Tryz.func14 (by kernel_rfl) rfl
theorem Jlf:Ent Tryz.prog 15:=Jag Tryz.func15 (by kernel_rfl) rfl
theorem Ju5:Ent Tryz.prog 16:=Jag Tryz.func16 (by kernel_rfl) rfl
theorem Jv1:Ent Tryz.prog 17:=Jag Tryz.func17 (by kernel_rfl) rfl
theorem Jya:Ent Tryz.prog 18:=Jag Tryz.func18 (by kernel_rfl) rfl
theorem J1f:Ent Tryz.prog 19:=Jag Tryz.func19 (by kernel_rfl) rfl
theorem J0e:Ent Tryz.prog 20:=Jag Tryz.func20 (by kernel_rfl) rfl
theorem Jvs:Ent Tryz.prog 31:=Jag Tryz.func31 (by kernel_rfl) rfl
theorem Jws:Ent Tryz.prog 38:=Jag Tryz.func38 (by kernel_rfl) rfl
theorem J0z:Ent Tryz.prog 39:=Jag Tryz.func39 (by kernel_rfl) rfl
theorem Jx2:Ent Tryz.prog 40:=Jag Tryz.func40 (by kernel_rfl) rfl
theorem J06:Ent Tryz.prog 41:=Jag Tryz.func41 (by kernel_rfl) rfl
theorem J0y:Ent Tryz.prog 42:=Jag Tryz.func42 (by kernel_rfl) rfl
theorem Jye:Ent Tryz.prog 43:=Jag Tryz.func43 (by kernel_rfl) rfl
theorem Jzd:Ent Tryz.prog 44:=Jag Tryz.func44 (by kernel_rfl) rfl
theorem Jgk:Ent Tryz.prog 45:=Jag Tryz.func45 (by kernel_rfl) rfl
theorem Jvt:Ent Tryz.prog 46:=Jag Tryz.func46 (by kernel_rfl) rfl
theorem Jyw:Ent Tryz.prog 47:=Jag Tryz.func47 (by kernel_rfl) rfl
theorem J1c:Ent Tryz.prog 48:=Jag Tryz.func48 (by kernel_rfl) rfl
theorem Jxv:Ent Tryz.prog 49:=Jag Tryz.func49 (by kernel_rfl) rfl
theorem J09:Ent Tryz.prog 50:=Jag Tryz.func50 (by kernel_rfl) rfl
theorem Jvo:Ent Tryz.prog 51:=Jag Tryz.func51 (by kernel_rfl) rfl
theorem Jxr:Ent Tryz.prog 52:=Jag Tryz.func52 (by kernel_rfl) rfl
theorem J1i:Ent Tryz.prog 53:=Jag Tryz.func53 (by kernel_rfl) rfl
theorem Jyu:Ent Tryz.prog 54:=Jag Tryz.func54 (by kernel_rfl) rfl
theorem Jzv:Ent Tryz.prog 55:=Jag Tryz.func55 (by kernel_rfl) rfl
theorem Jzl:Ent Tryz.prog 56:=Jag Tryz.func56 (by kernel_rfl) rfl
theorem J0c:Ent Tryz.prog 57:=Jag Tryz.func57 (by kernel_rfl) rfl
theorem J07:Ent Tryz.prog 58:=Jag Tryz.func58 (by kernel_rfl) rfl
theorem J02:Ent Tryz.prog 59:=Jag Tryz.func59 (by kernel_rfl) rfl
theorem Jns:Ent Tryz.prog 60:=Jag Tryz.func60 (by kernel_rfl) rfl
theorem Jkl:Ent Tryz.prog 61:=Jag Tryz.func61 (by kernel_rfl) rfl
theorem Jnj:Ent Tryz.prog 62:=Jag Tryz.func62 (by kernel_rfl) rfl
theorem J1h:Ent Tryz.prog 63:=Jag Tryz.func63 (by kernel_rfl) rfl
theorem Jyx:Ent Tryz.prog 64:=Jag Tryz.func64 (by kernel_rfl) rfl
theorem Jez:Ent Tryz.prog 89:=Jag Tryz.func89 (by kernel_rfl) rfl
theorem Jtg:Ent Tryz.prog 90:=Jag Tryz.func90 (by kernel_rfl) rfl
theorem Jv5:Ent Tryz.prog 91:=Jag Tryz.func91 (by kernel_rfl) rfl
theorem Jro:Ent Tryz.prog 92:=Jag Tryz.func92 (by kernel_rfl) rfl
theorem Jj3:Ent Tryz.prog 93:=Jag Tryz.func93 (by kernel_rfl) rfl
theorem Jpf:Ent Tryz.prog 94:=Jag Tryz.func94 (by kernel_rfl) rfl
theorem J1l:Ent Tryz.prog 95:=Jag Tryz.func95 (by kernel_rfl) rfl
theorem Jv3:Ent Tryz.prog 96:=Jag Tryz.func96 (by kernel_rfl) rfl
theorem J0v:Ent Tryz.prog 97:=Jag Tryz.func97 (by kernel_rfl) rfl
theorem J0t:Ent Tryz.prog 98:=Jag Tryz.func98 (by kernel_rfl) rfl
theorem Jo3:Ent Tryz.prog 99:=Jag Tryz.func99 (by kernel_rfl) rfl
theorem Jp2:Ent Tryz.prog 100:=Jag Tryz.func100 (by kernel_rfl) rfl
theorem Jpk:Ent Tryz.prog 101:=Jag Tryz.func101 (by kernel_rfl) rfl
theorem Jm8:Ent Tryz.prog 102:=Jag Tryz.func102 (by kernel_rfl) rfl
theorem Juu:Ent Tryz.prog 103:=Jag Tryz.func103 (by kernel_rfl) rfl
theorem J0l:Ent Tryz.prog 104:=Jag Tryz.func104 (by kernel_rfl) rfl
theorem Jx1:Ent Tryz.prog 105:=Jag Tryz.func105 (by kernel_rfl) rfl
theorem Jgz:Ent Tryz.prog 106:=Jag Tryz.func106 (by kernel_rfl) rfl
theorem Jua:Ent Tryz.prog 107:=Jag Tryz.func107 (by kernel_rfl) rfl
theorem Jug:Ent Tryz.prog 108:=Jag Tryz.func108 (by kernel_rfl) rfl
theorem Jid:Ent Tryz.prog 109:=Jag Tryz.func109 (by kernel_rfl) rfl
theorem Jur:Ent Tryz.prog 110:=Jag Tryz.func110 (by kernel_rfl) rfl
theorem Jxf:Ent Tryz.prog 111:=Jag Tryz.func111 (by kernel_rfl) rfl
theorem Jme:Ent Tryz.prog 112:=Jag Tryz.func112 (by kernel_rfl) rfl
theorem Jyb:Ent Tryz.prog 114:=Jag Tryz.func114 (by kernel_rfl) rfl
theorem Jt9:Ent Tryz.prog 115:=Jag Tryz.func115 (by kernel_rfl) rfl
theorem Jlw:Ent Tryz.prog 116:=Jag Tryz.func116 (by kernel_rfl) rfl
theorem Jz4:Ent Tryz.prog 117:=Jag Tryz.func117 (by kernel_rfl) rfl
theorem Jmz:Ent Tryz.prog 118:=Jag Tryz.func118 (by kernel_rfl) rfl
theorem Jcv:Ent Tryz.prog 119:=Jag Tryz.func119 (by kernel_rfl) rfl
theorem Jzj:Ent Tryz.prog 120:=Jag Tryz.func120 (by kernel_rfl) rfl
theorem Jx0:Ent Tryz.prog 121:=Jag Tryz.func121 (by kernel_rfl) rfl
theorem Jkc:Ent Tryz.prog 122:=Jag Tryz.func122 (by kernel_rfl) rfl
theorem Jka:Ent Tryz.prog 123:=Jag Tryz.func123 (by kernel_rfl) rfl
theorem Jor:Ent Tryz.prog 124:=Jag Tryz.func124 (by kernel_rfl) rfl
theorem Jmg:Ent Tryz.prog 125:=Jag Tryz.func125 (by kernel_rfl) rfl
theorem Jxg:Ent Tryz.prog 126:=Jag Tryz.func126 (by kernel_rfl) rfl
theorem Jh9:Ent Tryz.prog 127:=Jag Tryz.func127 (by kernel_rfl) rfl
theorem Juz:Ent Tryz.prog 128:=Jag Tryz.func128 (by kernel_rfl) rfl
theorem Jz9:Ent Tryz.prog 142:=Jag Tryz.func142 (by kernel_rfl) rfl
theorem Jpe:Ent Tryz.prog 143:=Jag Tryz.func143 (by kernel_rfl) rfl
theorem Jut:Ent Tryz.prog 144:=Jag Tryz.func144 (by kernel_rfl) rfl
theorem Jyy:Ent Tryz.prog 145:=Jag Tryz.func145 (by kernel_rfl) rfl
theorem Jz8:Ent Tryz.prog 146:=Jag Tryz.func146 (by kernel_rfl) rfl
theorem Jux:Ent Tryz.prog 147:=Jag Tryz.func147 (by kernel_rfl) rfl
theorem Jzx:Ent Tryz.prog 148:=Jag Tryz.func148 (by kernel_rfl) rfl
theorem Jmn:Ent Tryz.prog 149:=Jag Tryz.func149 (by kernel_rfl) rfl
theorem Jyd:Ent Tryz.prog 150:=Jag Tryz.func150 (by kernel_rfl) rfl
theorem Jz2:Ent Tryz.prog 151:=Jag Tryz.func151 (by kernel_rfl) rfl
theorem Jz1:Ent Tryz.prog 152:=Jag Tryz.func152 (by kernel_rfl) rfl
theorem Jx6:Ent Tryz.prog 153:=Jag Tryz.func153 (by kernel_rfl) rfl
theorem Jy5:Ent Tryz.prog 154:=Jag Tryz.func154 (by kernel_rfl) rfl
theorem Jzb:Ent Tryz.prog 155:=Jag Tryz.func155 (by kernel_rfl) rfl
theorem Jh5:Ent Tryz.prog 156:=Jag Tryz.func156 (by kernel_rfl) rfl
theorem J0h:Ent Tryz.prog 157:=Jag Tryz.func157 (by kernel_rfl) rfl
theorem Jem:Ent Tryz.prog 158:=Jag Tryz.func158 (by kernel_rfl) rfl
theorem Jxh:Ent Tryz.prog 159:=Jag Tryz.func159 (by kernel_rfl) rfl
theorem Jyk:Ent Tryz.prog 160:=Jag Tryz.func160 (by kernel_rfl) rfl
theorem Jzi:Ent Tryz.prog 161:=Jag Tryz.func161 (by kernel_rfl) rfl
theorem Jyh:Ent Tryz.prog 162:=Jag Tryz.func162 (by kernel_rfl) rfl
theorem Jym:Ent Tryz.prog 163:=Jag Tryz.func163 (by kernel_rfl) rfl
theorem J0k:Ent Tryz.prog 164:=Jag Tryz.func164 (by kernel_rfl) rfl
theorem Jrd:Ent Tryz.prog 165:=Jag Tryz.func165 (by kernel_rfl) rfl
theorem Jx9:Ent Tryz.prog 166:=Jag Tryz.func166 (by kernel_rfl) rfl
theorem Jzu:Ent Tryz.prog 167:=Jag Tryz.func167 (by kernel_rfl) rfl
theorem Jzq:Ent Tryz.prog 168:=Jag Tryz.func168 (by kernel_rfl) rfl
theorem Jzw:Ent Tryz.prog 169:=Jag Tryz.func169 (by kernel_rfl) rfl
theorem Jx7:Ent Tryz.prog 171:=Jag Tryz.func171 (by kernel_rfl) rfl
theorem Jyi:Ent Tryz.prog 172:=Jag Tryz.func172 (by kernel_rfl) rfl
theorem Jui:Ent Tryz.prog 173:=Jag Tryz.func173 (by kernel_rfl) rfl
theorem Jzz:Ent Tryz.prog 174:=Jag Tryz.func174 (by kernel_rfl) rfl
theorem J0p:Ent Tryz.prog 187:=Jag Tryz.func187 (by kernel_rfl) rfl
theorem Jt7:Ent Tryz.prog 188:=Jag Tryz.func188 (by kernel_rfl) rfl
theorem Jf8:Ent Tryz.prog 189:=Jag Tryz.func189 (by kernel_rfl) rfl
theorem Jot:Ent Tryz.prog 190:=Jag Tryz.func190 (by kernel_rfl) rfl
theorem Juc:Ent Tryz.prog 191:=Jag Tryz.func191 (by kernel_rfl) rfl
theorem Jyr:Ent Tryz.prog 192:=Jag Tryz.func192 (by kernel_rfl) rfl
theorem Jzo:Ent Tryz.prog 193:=Jag Tryz.func193 (by kernel_rfl) rfl
theorem J0j:Ent Tryz.prog 194:=Jag Tryz.func194 (by kernel_rfl) rfl
theorem Jmw:Ent Tryz.prog 195:=Jag Tryz.func195 (by kernel_rfl) rfl
theorem Jzs:Ent Tryz.prog 196:=Jag Tryz.func196 (by kernel_rfl) rfl
theorem Jyo:Ent Tryz.prog 197:=Jag Tryz.func197 (by kernel_rfl) rfl
theorem Jxj:Ent Tryz.prog 198:=Jag Tryz.func198 (by kernel_rfl) rfl
theorem Jzf:Ent Tryz.prog 199:=Jag Tryz.func199 (by kernel_rfl) rfl
theorem J0a:Ent Tryz.prog 200:=Jag Tryz.func200 (by kernel_rfl) rfl
theorem Jyv:Ent Tryz.prog 201:=Jag Tryz.func201 (by kernel_rfl) rfl
theorem Jqq:Ent Tryz.prog 202:=Jag Tryz.func202 (by kernel_rfl) rfl
theorem Jud:Ent Tryz.prog 203:=Jag Tryz.func203 (by kernel_rfl) rfl
theorem J0b:Ent Tryz.prog 204:=Jag Tryz.func204 (by kernel_rfl) rfl
theorem Jz7:Ent Tryz.prog 205:=Jag Tryz.func205 (by kernel_rfl) rfl
theorem Jyc:Ent Tryz.prog 206:=Jag Tryz.func206 (by kernel_rfl) rfl
theorem Jys:Ent Tryz.prog 207:=Jag Tryz.func207 (by kernel_rfl) rfl
theorem Jxs:Ent Tryz.prog 208:=Jag Tryz.func208 (by kernel_rfl) rfl
theorem Jxo:Ent Tryz.prog 209:=Jag Tryz.func209 (by kernel_rfl) rfl
theorem Jzr:Ent Tryz.prog 210:=Jag Tryz.func210 (by kernel_rfl) rfl
theorem Jt8:Ent Tryz.prog 211:=Jag Tryz.func211 (by kernel_rfl) rfl
theorem Jxz:Ent Tryz.prog 212:=Jag Tryz.func212 (by kernel_rfl) rfl
theorem Jxt:Ent Tryz.prog 213:=Jag Tryz.func213 (by kernel_rfl) rfl
theorem Jzc:Ent Tryz.prog 214:=Jag Tryz.func214 (by kernel_rfl) rfl
theorem Jxp:Ent Tryz.prog 230:=Jag Tryz.func230 (by kernel_rfl) rfl
theorem Jzp:Ent Tryz.prog 231:=Jag Tryz.func231 (by kernel_rfl) rfl
theorem Jy9:Ent Tryz.prog 232:=Jag Tryz.func232 (by kernel_rfl) rfl
theorem J0m:Ent Tryz.prog 233:=Jag Tryz.func233 (by kernel_rfl) rfl
theorem Jyn:Ent Tryz.prog 234:=Jag Tryz.func234 (by kernel_rfl) rfl
theorem Jxl:Ent Tryz.prog 235:=Jag Tryz.func235 (by kernel_rfl) rfl
theorem Jxe:Ent Tryz.prog 236:=Jag Tryz.func236 (by kernel_rfl) rfl
theorem Jxx:Ent Tryz.prog 237:=Jag Tryz.func237 (by kernel_rfl) rfl
theorem Jz3:Ent Tryz.prog 238:=Jag Tryz.func238 (by kernel_rfl) rfl
theorem Jzt:Ent Tryz.prog 239:=Jag Tryz.func239 (by kernel_rfl) rfl
theorem J0i:Ent Tryz.prog 240:=Jag Tryz.func240 (by kernel_rfl) rfl
theorem Jyz:Ent Tryz.prog 241:=Jag Tryz.func241 (by kernel_rfl) rfl
theorem Jy0:Ent Tryz.prog 242:=Jag Tryz.func242 (by kernel_rfl) rfl
theorem Jyj:Ent Tryz.prog 243:=Jag Tryz.func243 (by kernel_rfl) rfl
theorem Jxu:Ent Tryz.prog 261:=Jag Tryz.func261 (by kernel_rfl) rfl
theorem Jy1:Ent Tryz.prog 262:=Jag Tryz.func262 (by kernel_rfl) rfl
theorem Jzk:Ent Tryz.prog 263:=Jag Tryz.func263 (by kernel_rfl) rfl
theorem Jx3:Ent Tryz.prog 264:=Jag Tryz.func264 (by kernel_rfl) rfl
instance:Fx Tryz.prog where
 ft:=(.n (.n (.n (.n (.n (.n .o 7 [0,1,2,3] .o) 8 [0,1,2,3] (.n .o 13 [0,1] .o)) 14 [0,1] (.n (.n .o 18 [0] .o) 19 [0] (.n .o 30 [0,1,2,3,4,5,6,7] .o))) 31 [0,1,2,3,4,5,6,7] (.n (.n (.n .o 35 [0,8,9,10,11] .o) 36 [0,8,9,10,11] (.n .o 43 [0,1,2] .o)) 44 [0,1,2] (.n (.n .o 46 [0,3] .o) 47 [0,3] .o))) 53 [0,1,2] (.n (.n (.n (.n .o 54 [0,1,2] .o) 83 [0,1,2,5,6] (.n .o 84 [0,1,2,5,6] .o)) 89 [0,1] (.n (.n .o 90 [0,1] .o) 91 [0,1,2,3,4,5,6] (.n .o 92 [0,1,2,3,4,5,6] .o))) 93 [0,1,2,3,4] (.n (.n (.n .o 94 [0,1,2,3,4] .o) 96 [0,1,2,3] (.n .o 97 [0,1,2,3] .o)) 106 [0,12,16] (.n (.n .o 107 [0,12,16] .o) 116 [0,8,11,14] .o)))) 117 [0,8,11,14] (.n (.n (.n (.n (.n .o 121 [0,1,2] .o) 122 [0,1,2] (.n .o 123 [0,15,16] .o)) 124 [0,15,16] (.n (.n .o 141 [0,1] .o) 142 [0,1] (.n .o 165 [0,12,16,17,18,19,20] .o))) 166 [0,12,16,17,18,19,20] (.n (.n (.n .o 167 [0,1,2] .o) 168 [0,1,2] (.n .o 169 [0,1,2] .o)) 170 [0,1,2] (.n (.n .o 172 [0,1,2,3,4,5,6,7] .o) 173 [0,1,2,3,4,5,6,7] .o))) 174 [0,1] (.n (.n (.n (.n .o 175 [0,1] .o) 176 [0,1] (.n .o 177 [0,1] .o)) 184 [0,1] (.n (.n .o 199 [0,8] .o) 200 [0,8] (.n .o 205 [0,1,2] .o))) 206 [0,1,2] (.n (.n (.n .o 210 [0,12,16,17] .o) 211 [0,12,16,17] (.n .o 319 [0,1,2,3] .o)) 320 [0,1,2,3] (.n (.n .o 331 [0,1,2,3,4,5,6,7,8,9,10] .o) 332 [0,1,2,3,4,5,6,7,8,9,10] .o)))))
 kt:=(.n (.n (.n (.n (.n (.n (.n (.n (.n .o 1 (false,1) .o) 2 (false,1) .o) 3 (false,1) (.n .o 4 (false,1) .o)) 5 (false,1) (.n (.n (.n .o 6 (false,1) .o) 7 (true,4) .o) 8 (true,4) (.n .o 9 (false,1) .o))) 10 (false,1) (.n (.n (.n (.n .o 11 (false,1) .o) 12 (false,1) .o) 13 (true,2) (.n .o 14 (true,2) .o)) 15 (false,1) (.n (.n (.n .o 16 (false,1) .o) 17 (false,1) .o) 18 (true,1) (.n .o 19 (true,1) .o)))) 21 (false,1) (.n (.n (.n (.n (.n .o 22 (false,1) .o) 23 (false,1) .o) 24 (false,1) (.n .o 25 (false,1) .o)) 26 (false,1) (.n (.n (.n .o 27 (false,1) .o) 28 (false,1) .o) 29 (false,1) (.n .o 30 (true,8) .o))) 31 (true,8) (.n (.n (.n (.n .o 32 (false,1) .o) 33 (false,1) .o) 34 (false,1) (.n .o 35 (true,12) .o)) 36 (true,12) (.n (.n .o 37 (false,1) .o) 38 (false,1) (.n .o 39 (false,1) .o))))) 40 (false,1) (.n (.n (.n (.n (.n (.n .o 41 (false,1) .o) 42 (false,1) .o) 43 (true,3) (.n .o 44 (true,3) .o)) 45 (false,1) (.n (.n (.n .o 46 (true,4) .o) 47 (true,4) .o) 48 (false,1) (.n .o 50 (false,1) .o))) 51 (false,1) (.n (.n (.n (.n .o 52 (false,1) .o) 53 (true,3) .o) 54 (true,3) (.n .o 55 (false,1) .o)) 57 (false,1) (.n (.n (.n .o 58 (false,1) .o) 60 (false,1) .o) 61 (false,1) (.n .o 62 (false,1) .o)))) 63 (false,1) (.n (.n (.n (.n (.n .o 65 (false,1) .o) 66 (false,1) .o) 67 (false,1) (.n .o 69 (false,1) .o)) 70 (false,1) (.n (.n (.n .o 71 (false,1) .o) 72 (false,1) .o) 73 (false,1) (.n .o 75 (false,1) .o))) 76 (false,1) (.n (.n (.n (.n .o 77 (false,1) .o) 79 (false,1) .o) 80 (false,1) (.n .o 81 (false,1) .o)) 82 (false,1) (.n (.n .o 83 (true,7) .o) 84 (true,7) (.n .o 86 (false,1) .o)))))) 87 (false,1) (.n (.n (.n (.n (.n (.n (.n .o 88 (false,1) .o) 89 (true,2) .o) 90 (true,2) (.n .o 91 (true,7) .o)) 92 (true,7) (.n (.n (.n .o 93 (true,11) .o) 94 (true,11) .o) 95 (false,1) (.n .o 96 (true,4) .o))) 97 (true,4) (.n (.n (.n (.n .o 98 (false,1) .o) 99 (false,1) .o) 100 (false,1) (.n .o 101 (false,1) .o)) 102 (false,1) (.n (.n (.n .o 103 (false,1) .o) 104 (false,1) .o) 105 (false,1) (.n .o 106 (true,17) .o)))) 107 (true,17) (.n (.n (.n (.n (.n .o 108 (false,1) .o) 110 (false,1) .o) 111 (false,1) (.n .o 112 (false,1) .o)) 114 (false,1) (.n (.n (.n .o 115 (false,1) .o) 116 (true,15) .o) 117 (true,15) (.n .o 118 (false,1) .o))) 119 (false,1) (.n (.n (.n (.n .o 120 (false,1) .o) 121 (true,3) .o) 122 (true,3) (.n .o 123 (true,19) .o)) 124 (true,19) (.n (.n .o 125 (false,1) .o) 126 (false,1) (.n .o 127 (false,1) .o))))) 128 (false,1) (.n (.n (.n (.n (.n (.n .o 130 (false,1) .o) 131 (false,1) .o) 132 (false,1) (.n .o 133 (false,1) .o)) 134 (false,1) (.n (.n (.n .o 135 (false,1) .o) 136 (false,1) .o) 137 (false,1) (.n .o 139 (false,1) .o))) 140 (false,1) (.n (.n (.n (.n .o 141 (true,4) .o) 142 (true,4) .o) 143 (false,1) (.n .o 144 (false,1) .o)) 145 (false,1) (.n (.n (.n .o 146 (false,1) .o) 147 (false,1) .o) 148 (false,1) (.n .o 149 (false,1) .o)))) 150 (false,1) (.n (.n (.n (.n (.n .o 152 (false,1) .o) 153 (false,1) .o) 154 (false,1) (.n .o 155 (false,1) .o)) 156 (false,1) (.n (.n (.n .o 157 (false,1) .o) 158 (false,1) .o) 160 (false,1) (.n .o 161 (false,1) .o))) 162 (false,1) (.n (.n (.n (.n .o 163 (false,1) .o) 164 (false,1) .o) 165 (true,21) (.n .o 166 (true,21) .o)) 167 (true,3) (.n (.n .o 168 (true,3) .o) 169 (true,3) (.n .o 170 (true,3) .o))))))) 171 (false,1) (.n (.n (.n (.n (.n (.n (.n (.n .o 172 (true,8) .o) 173 (true,8) .o) 174 (true,2) (.n .o 175 (true,2) .o)) 176 (true,3) (.n (.n (.n .o 177 (true,3) .o) 178 (false,1) .o) 179 (false,1) (.n .o 180 (false,1) .o))) 181 (false,1) (.n (.n (.n (.n .o 182 (false,1) .o) 183 (false,1) .o) 184 (true,2) (.n .o 185 (false,1) .o)) 186 (false,1) (.n (.n (.n .o 187 (false,1) .o) 188 (false,1) .o) 189 (false,1) (.n .o 191 (false,1) .o)))) 192 (false,1) (.n (.n (.n (.n (.n .o 193 (false,1) .o) 194 (false,1) .o) 195 (false,1) (.n .o 196 (false,1) .o)) 197 (false,1) (.n (.n (.n .o 198 (false,1) .o) 199 (true,11) .o) 200 (true,11) (.n .o 201 (false,1) .o))) 202 (false,1) (.n (.n (.n (.n .o 203 (false,1) .o) 204 (false,1) .o) 205 (true,3) (.n .o 206 (true,3) .o)) 207 (false,1) (.n (.n .o 208 (false,1) .o) 209 (false,1) (.n .o 210 (true,18) .o))))) 211 (true,18) (.n (.n (.n (.n (.n (.n .o 213 (false,1) .o) 214 (false,1) .o) 215 (false,1) (.n .o 216 (false,1) .o)) 217 (false,1) (.n (.n (.n .o 218 (false,1) .o) 219 (false,1) .o) 220 (false,1) (.n .o 221 (false,1) .o))) 222 (false,1) (.n (.n (.n (.n .o 223 (false,1) .o) 224 (false,1) .o) 225 (false,1) (.n .o 226 (false,1) .o)) 227 (false,1) (.n (.n (.n .o 228 (false,1) .o) 229 (false,1) .o) 230 (false,1) (.n .o 231 (false,1) .o)))) 232 (false,1) (.n (.n (.n (.n (.n .o 233 (false,1) .o) 234 (false,1) .o) 235 (false,1) (.n .o 236 (false,1) .o)) 237 (false,1) (.n (.n (.n .o 238 (false,1) .o) 239 (false,1) .o) 240 (false,1) (.n .o 241 (false,1) .o))) 242 (false,1) (.n (.n (.n (.n .o 243 (false,1) .o) 244 (false,1) .o) 245 (false,1) (.n .o 246 (false,1) .o)) 247 (false,1) (.n (.n .o 248 (false,1) .o) 249 (false,1) (.n .o 250 (false,1) .o)))))) 251 (false,1) (.n (.n (.n (.n (.n (.n (.n .o 252 (false,1) .o) 253 (false,1) .o) 254 (false,1) (.n .o 255 (false,1) .o)) 256 (false,1) (.n (.n (.n .o 257 (false,1) .o) 258 (false,1) .o) 259 (false,1) (.n .o 260 (false,1) .o))) 261 (false,1) (.n (.n (.n (.n .o 262 (false,1) .o) 263 (false,1) .o) 264 (false,1) (.n .o 266 (false,1) .o)) 267 (true,24) (.n (.n (.n .o 268 (false,1) .o) 269 (false,1) .o) 270 (false,1) (.n .o 271 (false,1) .o)))) 273 (false,1) (.n (.n (.n (.n (.n .o 274 (false,1) .o) 275 (false,1) .o) 276 (false,1) (.n .o 277 (false,1) .o)) 278 (false,1) (.n (.n (.n .o 279 (false,1) .o) 280 (false,1) .o) 281 (false,1) (.n .o 282 (false,1) .o))) 283 (false,1) (.n (.n (.n (.n .o 284 (false,1) .o) 285 (false,1) .o) 286 (false,1) (.n .o 287 (false,1) .o)) 288 (false,1) (.n (.n .o 289 (true,20) .o) 290 (false,1) (.n .o 291 (true,65) .o))))) 292 (false,1) (.n (.n (.n (.n (.n (.n .o 293 (false,1) .o) 295 (false,1) .o) 296 (false,1) (.n .o 297 (false,1) .o)) 298 (false,1) (.n (.n (.n .o 299 (false,1) .o) 300 (false,1) .o) 302 (false,1) (.n .o 303 (false,1) .o))) 304 (false,1) (.n (.n (.n (.n .o 305 (false,1) .o) 306 (false,1) .o) 307 (true,10) (.n .o 308 (true,32) .o)) 309 (true,64) (.n (.n (.n .o 310 (false,1) .o) 311 (false,1) .o) 312 (false,1) (.n .o 313 (false,1) .o)))) 314 (false,1) (.n (.n (.n (.n (.n .o 315 (false,1) .o) 316 (false,1) .o) 317 (false,1) (.n .o 318 (false,1) .o)) 319 (true,4) (.n (.n (.n .o 320 (true,4) .o) 321 (true,0) .o) 322 (true,0) (.n .o 323 (true,0) .o))) 324 (false,1) (.n (.n (.n (.n .o 325 (false,1) .o) 326 (false,1) .o) 327 (false,1) (.n .o 328 (false,1) .o)) 329 (false,1) (.n (.n .o 330 (false,1) .o) 331 (true,11) (.n .o 332 (true,11) .o))))))))
 st:=(.n (.n (.n (.n (.n .o 22 (9,1,16) .o) 23 (97,4,40) .o) 24 (168,3,48) (.n (.n .o 25 (170,3,40) .o) 26 (173,8,152) .o)) 27 (177,3,40) (.n (.n (.n .o 28 (206,3,24) .o) 29 (206,3,24) .o) 32 (90,2,16) (.n (.n .o 33 (42,1,24) .o) 34 (94,11,128) .o))) 37 (54,3,24) (.n (.n (.n (.n .o 42 (3,1,8) .o) 45 (4,1,1) .o) 55 (122,3,24) (.n (.n .o 67 (84,7,56) .o) 73 (67,1,24) .o)) 99 (92,7,72) (.n (.n (.n .o 125 (124,19,360) .o) 143 (142,4,32) .o) 171 (175,2,16) (.n .o 271 (5,1,1) .o))))
 fk:=by kernel_rfl
 kk:=by kernel_rfl
 sk:=by kernel_rfl
end Go.Proofs.YtbboikncaihafaaGreatDoor
