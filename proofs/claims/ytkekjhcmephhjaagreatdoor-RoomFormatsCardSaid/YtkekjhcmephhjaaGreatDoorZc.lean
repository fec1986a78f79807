/- Merged texts of this proof (walks and plain laws), printed by a program of the prover. -/
import Derived.Test.YtkekjhcmephhjaaGreatDoorZb
import Derived.Test.YtkekjhcmephhjaaGreatDoorProg
import Derived.KernelRfl
namespace Go.Proofs.YtkekjhcmephhjaaGreatDoor
open Go.Proofs
theorem mixed:Tryz.prog.follows .mixedOrders=true:=by kernel_rfl
theorem tk3:tk Tryz.prog 3=some (false,1):=by kernel_rfl
theorem tk4:tk Tryz.prog 4=some (false,1):=by kernel_rfl
theorem tk9:tk Tryz.prog 9=some (false,1):=by kernel_rfl
theorem tk23:tk Tryz.prog 23=some (false,1):=by kernel_rfl
theorem tk24:tk Tryz.prog 24=some (false,1):=by kernel_rfl
theorem tk25:tk Tryz.prog 25=some (false,1):=by kernel_rfl
theorem tk26:tk Tryz.prog 26=some (false,1):=by kernel_rfl
theorem tk27:tk Tryz.prog 27=some (false,1):=by kernel_rfl
theorem tk28:tk Tryz.prog 28=some (false,1):=by kernel_rfl
theorem tk30:tk Tryz.prog 30=some (false,1):=by kernel_rfl
theorem tk32:tk Tryz.prog 32=some (true,8):=by kernel_rfl
theorem tk43:tk Tryz.prog 43=some (false,1):=by kernel_rfl
theorem tk45:tk Tryz.prog 45=some (true,3):=by kernel_rfl
theorem tk50:tk Tryz.prog 50=some (true,3):=by kernel_rfl
theorem tk51:tk Tryz.prog 51=some (false,1):=by kernel_rfl
theorem tk65:tk Tryz.prog 65=some (true,4):=by kernel_rfl
theorem tk67:tk Tryz.prog 67=some (true,3):=by kernel_rfl
theorem tk69:tk Tryz.prog 69=some (true,3):=by kernel_rfl
theorem tk71:tk Tryz.prog 71=some (false,1):=by kernel_rfl
theorem tk73:tk Tryz.prog 73=some (true,8):=by kernel_rfl
theorem tk75:tk Tryz.prog 75=some (true,2):=by kernel_rfl
theorem tk77:tk Tryz.prog 77=some (true,3):=by kernel_rfl
theorem tk79:tk Tryz.prog 79=some (false,1):=by kernel_rfl
theorem tk96:tk Tryz.prog 96=some (true,3):=by kernel_rfl
theorem zv3:zv Tryz.prog 3=some [.int .i64 0]:=by kernel_rfl
theorem zv4:zv Tryz.prog 4=some [.bool false]:=by kernel_rfl
theorem zv9:zv Tryz.prog 9=some [.string ⟨#[]⟩]:=by kernel_rfl
theorem zv23:zv Tryz.prog 23=some [.slice none 0 0]:=by kernel_rfl
theorem zv32:zv Tryz.prog 32=some [.slice none 0 0,.slice none 0 0,.slice none 0 0,.slice none 0 0,.slice none 0 0,.slice none 0 0,.int .i64 0,.slice none 0 0]:=by kernel_rfl
theorem zv45:zv Tryz.prog 45=some [.slice none 0 0,.slice none 0 0,.slice none 0 0]:=by kernel_rfl
theorem zv50:zv Tryz.prog 50=some [.int .i64 0,.int .i64 0,.int .i64 0]:=by kernel_rfl
theorem zv51:zv Tryz.prog 51=some [.slice none 0 0]:=by kernel_rfl
theorem zv56:zv Tryz.prog 56=some [.slice none 0 0,.slice none 0 0,.slice none 0 0,.slice none 0 0,.slice none 0 0,.slice none 0 0,.int .i64 0,.slice none 0 0,.int .i64 0,.slice none 0 0]:=by kernel_rfl
theorem zv65:zv Tryz.prog 65=some [.string ⟨#[]⟩,.int .i64 0,.int .i64 0,.int .i64 0]:=by kernel_rfl
theorem zv67:zv Tryz.prog 67=some [.string ⟨#[]⟩,.int .i64 0,.slice none 0 0]:=by kernel_rfl
theorem zv69:zv Tryz.prog 69=some [.int .i64 0,.int .i64 0,.slice none 0 0]:=by kernel_rfl
theorem zv73:zv Tryz.prog 73=some [.string ⟨#[]⟩,.int .i64 0,.int .i64 0,.slice none 0 0,.slice none 0 0,.slice none 0 0,.slice none 0 0,.slice none 0 0]:=by kernel_rfl
theorem zv75:zv Tryz.prog 75=some [.int .i64 0,.int .i64 0]:=by kernel_rfl
theorem zv77:zv Tryz.prog 77=some [.slice none 0 0,.int .i64 0,.int .i64 0]:=by kernel_rfl
theorem zv81:zv Tryz.prog 81=some [.pointer none,.slice none 0 0]:=by kernel_rfl
theorem zv96:zv Tryz.prog 96=some [.int .i64 0,.int .i64 0,.bool false]:=by kernel_rfl
theorem J4k:zv Tryz.prog 113=some [.pointer none]:=by kernel_rfl
theorem J43:zv Tryz.prog 134=some [.nilFunc]:=by kernel_rfl
theorem J4n:zv Tryz.prog 156=some [.slice none 0 0,.slice none 0 0,.slice none 0 0,.slice none 0 0,.slice none 0 0,.slice none 0 0,.int .i64 0,.slice none 0 0,.slice none 0 0,.slice none 0 0,.slice none 0 0]:=by kernel_rfl
theorem sl23:sl Tryz.prog 23=some (9,1,16):=by kernel_rfl
theorem sl24:sl Tryz.prog 24=some (65,4,40):=by kernel_rfl
theorem sl25:sl Tryz.prog 25=some (67,3,48):=by kernel_rfl
theorem sl26:sl Tryz.prog 26=some (69,3,40):=by kernel_rfl
theorem sl27:sl Tryz.prog 27=some (73,8,152):=by kernel_rfl
theorem sl28:sl Tryz.prog 28=some (77,3,40):=by kernel_rfl
theorem sl29:sl Tryz.prog 29=some (96,3,24):=by kernel_rfl
theorem sl30:sl Tryz.prog 30=some (96,3,24):=by kernel_rfl
theorem sl43:sl Tryz.prog 43=some (3,1,8):=by kernel_rfl
theorem sl51:sl Tryz.prog 51=some (50,3,24):=by kernel_rfl
theorem sl71:sl Tryz.prog 71=some (75,2,16):=by kernel_rfl
theorem sl79:sl Tryz.prog 79=some (5,1,1):=by kernel_rfl
theorem sl82:sl Tryz.prog 82=some (23,1,24):=by kernel_rfl
theorem Jp7:plc Tryz.prog 32=some [(0,1),(1,1),(2,1),(3,1),(4,1),(5,1),(6,1),(7,1)]:=by kernel_rfl
theorem Jq5:plc Tryz.prog 45=some [(0,1),(1,1),(2,1)]:=by kernel_rfl
theorem J05:plc Tryz.prog 50=some [(0,1),(1,1),(2,1)]:=by kernel_rfl
theorem J3v:plc Tryz.prog 56=some [(0,8),(8,1),(9,1)]:=by kernel_rfl
theorem Jyu:plc Tryz.prog 65=some [(0,1),(1,1),(2,1),(3,1)]:=by kernel_rfl
theorem J1x:plc Tryz.prog 67=some [(0,1),(1,1),(2,1)]:=by kernel_rfl
theorem J04:plc Tryz.prog 69=some [(0,1),(1,1),(2,1)]:=by kernel_rfl
theorem Jz9:plc Tryz.prog 73=some [(0,1),(1,1),(2,1),(3,1),(4,1),(5,1),(6,1),(7,1)]:=by kernel_rfl
theorem Jyw:plc Tryz.prog 75=some [(0,1),(1,1)]:=by kernel_rfl
theorem J44:plc Tryz.prog 77=some [(0,1),(1,2)]:=by kernel_rfl
theorem Jsx:plc Tryz.prog 96=some [(0,1),(1,1),(2,1)]:=by kernel_rfl
theorem J0y:plc Tryz.prog 156=some [(0,8),(8,3)]:=by kernel_rfl
theorem ent5:Ent Tryz.prog 5:=Jag Tryz.func5 (by kernel_rfl) rfl
theorem ent6:Ent Tryz.prog 6:=Jag Tryz.func6 (by kernel_rfl) rfl
theorem ent8:Ent Tryz.prog 8:=Jag Tryz.func8 (by kernel_rfl) rfl
theorem ent9:Ent Tryz.prog 9:=Jag Tryz.func9 (by kernel_rfl) rfl
theorem J4m:Ent Tryz.prog 10:=Jag Tryz.func10 (by kernel_rfl) rfl
theorem Juh:Ent Tryz.prog 11:=Jag Tryz.func11 (by kernel_rfl) rfl
theorem J3l:Ent Tryz.prog 12:=Jag Tryz.func12 (by kernel_rfl) rfl
theorem J3j:Ent Tryz.prog 13:=Jag Tryz.func13 (by kernel_rfl) rfl
theorem J4o:Ent Tryz.prog 14:=Jag Tryz.func14 (by kernel_rfl) rfl
theorem J4d:Ent Tryz.prog 15:=Jag Tryz.func15 (by kernel_rfl) rfl
theorem J3m:Ent Tryz.prog 16:=Jag Tryz.func16 (by kernel_rfl) rfl
theorem J31:Ent Tryz.prog 17:=Jag Tryz.func17 (by kernel_rfl) rfl
theorem J4w:Ent Tryz.prog 18:=Jag Tryz.func18 (by kernel_rfl) rfl
theorem J45:Ent Tryz.prog 19:=Jag Tryz.func19 (by kernel_rfl) rfl
theorem Jww:Ent Tryz.prog 20:=Jag Tryz.func20 (by kernel_rfl) rfl
theorem J3x:Ent Tryz.prog 23:=Jag Tryz.func23 (by kernel_rfl) rfl
theorem Jm4:Ent Tryz.prog 24:=Jag Tryz.func24 (by kernel_rfl) rfl
theorem J3q:Ent Tryz.prog 25:=Jag Tryz.func25 (by kernel_rfl) rfl
theorem Jkd:Ent Tryz.prog 26:=Jag Tryz.func26 (by kernel_rfl) rfl
theorem J3n:Ent Tryz.prog 27:=Jag Tryz.func27 (by kernel_rfl) rfl
theorem J4p:Ent Tryz.prog 28:=Jag Tryz.func28 (by kernel_rfl) rfl
theorem J4u:Ent Tryz.prog 29:=Jag Tryz.func29 (by kernel_rfl) rfl
theorem Jhx:Ent Tryz.prog 30:=Jag Tryz.func30 (by kernel_rfl) rfl
theorem Jzc:Ent Tryz.prog 31:=Jag Tryz.func31 (by kernel_rfl) rfl
theorem Ju5:Ent Tryz.prog 32:=Jag Tryz.func32 (by kernel_rfl) rfl
theorem Jkk:Ent Tryz.prog 33:=Jag Tryz.func33 (by kernel_rfl) rfl
theorem Jkn:Ent Tryz.prog 34:=Jag Tryz.func34 (by kernel_rfl) rfl
theorem J34:Ent Tryz.prog 35:=Jag Tryz.func35 (by kernel_rfl) rfl
theorem Js0:Ent Tryz.prog 36:=Jag Tryz.func36 (by kernel_rfl) rfl
theorem Jy6:Ent Tryz.prog 37:=Jag Tryz.func37 (by kernel_rfl) rfl
theorem Jnk:Ent Tryz.prog 38:=Jag Tryz.func38 (by kernel_rfl) rfl
theorem Jwf:Ent Tryz.prog 39:=Jag Tryz.func39 (by kernel_rfl) rfl
theorem Jzw:Ent Tryz.prog 40:=Jag Tryz.func40 (by kernel_rfl) rfl
theorem J2z:Ent Tryz.prog 41:=Jag Tryz.func41 (by kernel_rfl) rfl
theorem J33:Ent Tryz.prog 42:=Jag Tryz.func42 (by kernel_rfl) rfl
theorem Js5:Ent Tryz.prog 43:=Jag Tryz.func43 (by kernel_rfl) rfl
theorem J4q:Ent Tryz.prog 44:=Jag Tryz.func44 (by kernel_rfl) rfl
theorem J42:Ent Tryz.prog 45:=Jag Tryz.func45 (by kernel_rfl) rfl
theorem Jzm:Ent Tryz.prog 46:=Jag Tryz.func46 (by kernel_rfl) rfl
theorem J3o:Ent Tryz.prog 47:=Jag Tryz.func47 (by kernel_rfl) rfl
theorem J46:Ent Tryz.prog 48:=Jag Tryz.func48 (by kernel_rfl) rfl
theorem J4b:Ent Tryz.prog 49:=Jag Tryz.func49 (by kernel_rfl) rfl
theorem J3u:Ent Tryz.prog 50:=Jag Tryz.func50 (by kernel_rfl) rfl
theorem J3y:Ent Tryz.prog 51:=Jag Tryz.func51 (by kernel_rfl) rfl
theorem J4e:Ent Tryz.prog 52:=Jag Tryz.func52 (by kernel_rfl) rfl
theorem J4c:Ent Tryz.prog 53:=Jag Tryz.func53 (by kernel_rfl) rfl
theorem J3z:Ent Tryz.prog 54:=Jag Tryz.func54 (by kernel_rfl) rfl
theorem Jw9:Ent Tryz.prog 55:=Jag Tryz.func55 (by kernel_rfl) rfl
theorem Jw7:Ent Tryz.prog 56:=Jag Tryz.func56 (by kernel_rfl) rfl
theorem J1h:Ent Tryz.prog 57:=Jag Tryz.func57 (by kernel_rfl) rfl
theorem J2o:Ent Tryz.prog 58:=Jag Tryz.func58 (by kernel_rfl) rfl
theorem J4f:Ent Tryz.prog 59:=Jag Tryz.func59 (by kernel_rfl) rfl
theorem J4s:Ent Tryz.prog 60:=Jag Tryz.func60 (by kernel_rfl) rfl
theorem J2d:Ent Tryz.prog 62:=Jag Tryz.func62 (by kernel_rfl) rfl
theorem J38:Ent Tryz.prog 63:=Jag Tryz.func63 (by kernel_rfl) rfl
theorem J19:Ent Tryz.prog 64:=Jag Tryz.func64 (by kernel_rfl) rfl
theorem Jlx:Ent Tryz.prog 65:=Jag Tryz.func65 (by kernel_rfl) rfl
theorem Jej:Ent Tryz.prog 66:=Jag Tryz.func66 (by kernel_rfl) rfl
theorem Jq7:Ent Tryz.prog 67:=Jag Tryz.func67 (by kernel_rfl) rfl
theorem Jjd:Ent Tryz.prog 68:=Jag Tryz.func68 (by kernel_rfl) rfl
theorem Jtr:Ent Tryz.prog 69:=Jag Tryz.func69 (by kernel_rfl) rfl
theorem Juj:Ent Tryz.prog 70:=Jag Tryz.func70 (by kernel_rfl) rfl
theorem Jxb:Ent Tryz.prog 71:=Jag Tryz.func71 (by kernel_rfl) rfl
theorem Jzf:Ent Tryz.prog 72:=Jag Tryz.func72 (by kernel_rfl) rfl
theorem J08:Ent Tryz.prog 73:=Jag Tryz.func73 (by kernel_rfl) rfl
theorem Jzk:Ent Tryz.prog 74:=Jag Tryz.func74 (by kernel_rfl) rfl
theorem J2u:Ent Tryz.prog 75:=Jag Tryz.func75 (by kernel_rfl) rfl
theorem Jxq:Ent Tryz.prog 76:=Jag Tryz.func76 (by kernel_rfl) rfl
theorem Jep:Ent Tryz.prog 77:=Jag Tryz.func77 (by kernel_rfl) rfl
theorem J3p:Ent Tryz.prog 78:=Jag Tryz.func78 (by kernel_rfl) rfl
theorem J35:Ent Tryz.prog 79:=Jag Tryz.func79 (by kernel_rfl) rfl
theorem J4y:Ent Tryz.prog 80:=Jag Tryz.func80 (by kernel_rfl) rfl
theorem J30:Ent Tryz.prog 81:=Jag Tryz.func81 (by kernel_rfl) rfl
theorem J4g:Ent Tryz.prog 82:=Jag Tryz.func82 (by kernel_rfl) rfl
theorem J4h:Ent Tryz.prog 83:=Jag Tryz.func83 (by kernel_rfl) rfl
theorem Jsv:Ent Tryz.prog 84:=Jag Tryz.func84 (by kernel_rfl) rfl
theorem J39:Ent Tryz.prog 85:=Jag Tryz.func85 (by kernel_rfl) rfl
theorem Jv3:Ent Tryz.prog 86:=Jag Tryz.func86 (by kernel_rfl) rfl
theorem Jvm:Ent Tryz.prog 98:=Jag Tryz.func98 (by kernel_rfl) rfl
theorem Jz5:Ent Tryz.prog 99:=Jag Tryz.func99 (by kernel_rfl) rfl
theorem Jl7:Ent Tryz.prog 100:=Jag Tryz.func100 (by kernel_rfl) rfl
theorem Jhs:Ent Tryz.prog 101:=Jag Tryz.func101 (by kernel_rfl) rfl
theorem Jms:Ent Tryz.prog 102:=Jag Tryz.func102 (by kernel_rfl) rfl
theorem J1c:Ent Tryz.prog 103:=Jag Tryz.func103 (by kernel_rfl) rfl
theorem Jtu:Ent Tryz.prog 104:=Jag Tryz.func104 (by kernel_rfl) rfl
theorem Js2:Ent Tryz.prog 105:=Jag Tryz.func105 (by kernel_rfl) rfl
theorem J1t:Ent Tryz.prog 106:=Jag Tryz.func106 (by kernel_rfl) rfl
theorem J03:Ent Tryz.prog 108:=Jag Tryz.func108 (by kernel_rfl) rfl
theorem Jtx:Ent Tryz.prog 110:=Jag Tryz.func110 (by kernel_rfl) rfl
theorem J1n:Ent Tryz.prog 111:=Jag Tryz.func111 (by kernel_rfl) rfl
theorem Jlo:Ent Tryz.prog 112:=Jag Tryz.func112 (by kernel_rfl) rfl
theorem Jl9:Ent Tryz.prog 113:=Jag Tryz.func113 (by kernel_rfl) rfl
theorem Jsu:Ent Tryz.prog 114:=Jag Tryz.func114 (by kernel_rfl) rfl
theorem Jsh:Ent Tryz.prog 115:=Jag Tryz.func115 (by kernel_rfl) rfl
theorem J2h:Ent Tryz.prog 116:=Jag Tryz.func116 (by kernel_rfl) rfl
theorem Jlt:Ent Tryz.prog 117:=Jag Tryz.func117 (by kernel_rfl) rfl
theorem Jyp:Ent Tryz.prog 118:=Jag Tryz.func118 (by kernel_rfl) rfl
theorem J14:Ent Tryz.prog 119:=Jag Tryz.func119 (by kernel_rfl) rfl
theorem Jjz:Ent Tryz.prog 122:=Jag Tryz.func122 (by kernel_rfl) rfl
theorem J3a:Ent Tryz.prog 123:=Jag Tryz.func123 (by kernel_rfl) rfl
theorem J29:Ent Tryz.prog 124:=Jag Tryz.func124 (by kernel_rfl) rfl
theorem J1w:Ent Tryz.prog 125:=Jag Tryz.func125 (by kernel_rfl) rfl
theorem Jt2:Ent Tryz.prog 126:=Jag Tryz.func126 (by kernel_rfl) rfl
theorem J1j:Ent Tryz.prog 127:=Jag Tryz.func127 (by kernel_rfl) rfl
theorem J06:Ent Tryz.prog 128:=Jag Tryz.func128 (by kernel_rfl) rfl
theorem Jyl:Ent Tryz.prog 129:=Jag Tryz.func129 (by kernel_rfl) rfl
theorem Jxt:Ent Tryz.prog 130:=Jag Tryz.func130 (by kernel_rfl) rfl
theorem Jx5:Ent Tryz.prog 131:=Jag Tryz.func131 (by kernel_rfl) rfl
theorem J1m:Ent Tryz.prog 132:=Jag Tryz.func132 (by kernel_rfl) rfl
theorem Jyg:Ent Tryz.prog 133:=Jag Tryz.func133 (by kernel_rfl) rfl
theorem J2b:Ent Tryz.prog 134:=Jag Tryz.func134 (by kernel_rfl) rfl
theorem J0z:Ent Tryz.prog 135:=Jag Tryz.func135 (by kernel_rfl) rfl
theorem Jr7:Ent Tryz.prog 136:=Jag Tryz.func136 (by kernel_rfl) rfl
theorem Jxy:Ent Tryz.prog 137:=Jag Tryz.func137 (by kernel_rfl) rfl
theorem J13:Ent Tryz.prog 138:=Jag Tryz.func138 (by kernel_rfl) rfl
theorem J3d:Ent Tryz.prog 139:=Jag Tryz.func139 (by kernel_rfl) rfl
theorem J2p:Ent Tryz.prog 140:=Jag Tryz.func140 (by kernel_rfl) rfl
theorem J3k:Ent Tryz.prog 141:=Jag Tryz.func141 (by kernel_rfl) rfl
theorem J2s:Ent Tryz.prog 142:=Jag Tryz.func142 (by kernel_rfl) rfl
theorem Jut:Ent Tryz.prog 146:=Jag Tryz.func146 (by kernel_rfl) rfl
theorem Jx0:Ent Tryz.prog 147:=Jag Tryz.func147 (by kernel_rfl) rfl
theorem J1e:Ent Tryz.prog 151:=Jag Tryz.func151 (by kernel_rfl) rfl
theorem J3b:Ent Tryz.prog 152:=Jag Tryz.func152 (by kernel_rfl) rfl
theorem J00:Ent Tryz.prog 153:=Jag Tryz.func153 (by kernel_rfl) rfl
theorem J3h:Ent Tryz.prog 154:=Jag Tryz.func154 (by kernel_rfl) rfl
theorem J21:Ent Tryz.prog 171:=Jag Tryz.func171 (by kernel_rfl) rfl
theorem J15:Ent Tryz.prog 172:=Jag Tryz.func172 (by kernel_rfl) rfl
theorem J1q:Ent Tryz.prog 174:=Jag Tryz.func174 (by kernel_rfl) rfl
theorem J07:Ent Tryz.prog 175:=Jag Tryz.func175 (by kernel_rfl) rfl
theorem J22:Ent Tryz.prog 176:=Jag Tryz.func176 (by kernel_rfl) rfl
theorem J1y:Ent Tryz.prog 177:=Jag Tryz.func177 (by kernel_rfl) rfl
theorem J2v:Ent Tryz.prog 178:=Jag Tryz.func178 (by kernel_rfl) rfl
theorem J12:Ent Tryz.prog 179:=Jag Tryz.func179 (by kernel_rfl) rfl
theorem J2q:Ent Tryz.prog 180:=Jag Tryz.func180 (by kernel_rfl) rfl
theorem J2x:Ent Tryz.prog 181:=Jag Tryz.func181 (by kernel_rfl) rfl
theorem J2g:Ent Tryz.prog 182:=Jag Tryz.func182 (by kernel_rfl) rfl
theorem J1g:Ent Tryz.prog 183:=Jag Tryz.func183 (by kernel_rfl) rfl
theorem J1d:Ent Tryz.prog 184:=Jag Tryz.func184 (by kernel_rfl) rfl
theorem J1a:Ent Tryz.prog 203:=Jag Tryz.func203 (by kernel_rfl) rfl
theorem Jx4:Ent Tryz.prog 204:=Jag Tryz.func204 (by kernel_rfl) rfl
theorem J2e:Ent Tryz.prog 205:=Jag Tryz.func205 (by kernel_rfl) rfl
theorem J3c:Ent Tryz.prog 206:=Jag Tryz.func206 (by kernel_rfl) rfl
instance:Fx Tryz.prog where
 ft:=(.n (.n (.n (.n (.n (.n .o 7 [0,1,2,3] .o) 8 [0,1,2,3] .o) 13 [0,1] (.n (.n .o 14 [0,1] .o) 18 [0] .o)) 19 [0] (.n (.n (.n .o 31 [0,1,2,3,4,5,6,7] .o) 32 [0,1,2,3,4,5,6,7] .o) 44 [0,1,2] (.n (.n .o 45 [0,1,2] .o) 49 [0,1,2] .o))) 50 [0,1,2] (.n (.n (.n (.n .o 55 [0,8,9] .o) 56 [0,8,9] .o) 64 [0,1,2,3] (.n (.n .o 65 [0,1,2,3] .o) 66 [0,1,2] .o)) 67 [0,1,2] (.n (.n (.n .o 68 [0,1,2] .o) 69 [0,1,2] .o) 72 [0,1,2,3,4,5,6,7] (.n (.n .o 73 [0,1,2,3,4,5,6,7] .o) 74 [0,1] .o)))) 75 [0,1] (.n (.n (.n (.n (.n .o 76 [0,1] .o) 77 [0,1] .o) 80 [0,1] (.n (.n .o 81 [0,1] .o) 95 [0,1,2] .o)) 96 [0,1,2] (.n (.n (.n .o 121 [] .o) 122 [] .o) 145 [0,1,2] (.n (.n .o 146 [0,1,2] .o) 155 [0,8] .o))) 156 [0,8] (.n (.n (.n (.n .o 236 [0,1,2] .o) 237 [0,1,2] .o) 241 [0,1] (.n (.n .o 242 [0,1] .o) 246 [0] .o)) 247 [0] (.n (.n (.n .o 250 [0,1,2,3] .o) 251 [0,1,2,3] .o) 260 [0,1,2,3,4,5,6,7,8,9,10] (.n .o 261 [0,1,2,3,4,5,6,7,8,9,10] .o)))))
 kt:=(.n (.n (.n (.n (.n (.n (.n (.n .o 1 (false,1) .o) 2 (false,1) (.n .o 3 (false,1) .o)) 4 (false,1) (.n (.n .o 5 (false,1) .o) 6 (false,1) (.n .o 7 (true,4) .o))) 8 (true,4) (.n (.n (.n .o 9 (false,1) .o) 10 (false,1) (.n .o 11 (false,1) .o)) 12 (false,1) (.n (.n .o 13 (true,2) .o) 14 (true,2) (.n .o 15 (false,1) .o)))) 16 (false,1) (.n (.n (.n (.n .o 17 (false,1) .o) 18 (true,1) (.n .o 19 (true,1) .o)) 21 (false,1) (.n (.n .o 22 (false,1) .o) 23 (false,1) (.n .o 24 (false,1) .o))) 25 (false,1) (.n (.n (.n .o 26 (false,1) .o) 27 (false,1) (.n .o 28 (false,1) .o)) 29 (false,1) (.n (.n .o 30 (false,1) .o) 31 (true,8) .o)))) 32 (true,8) (.n (.n (.n (.n (.n .o 33 (false,1) .o) 35 (false,1) (.n .o 36 (false,1) .o)) 37 (false,1) (.n (.n .o 38 (false,1) .o) 40 (false,1) (.n .o 41 (false,1) .o))) 42 (false,1) (.n (.n (.n .o 43 (false,1) .o) 44 (true,3) (.n .o 45 (true,3) .o)) 47 (false,1) (.n (.n .o 48 (false,1) .o) 49 (true,3) .o))) 50 (true,3) (.n (.n (.n (.n .o 51 (false,1) .o) 53 (false,1) (.n .o 54 (false,1) .o)) 55 (true,10) (.n (.n .o 56 (true,10) .o) 58 (false,1) (.n .o 59 (false,1) .o))) 60 (false,1) (.n (.n (.n .o 61 (false,1) .o) 62 (false,1) (.n .o 63 (false,1) .o)) 64 (true,4) (.n (.n .o 65 (true,4) .o) 66 (true,3) .o))))) 67 (true,3) (.n (.n (.n (.n (.n (.n .o 68 (true,3) .o) 69 (true,3) (.n .o 70 (false,1) .o)) 71 (false,1) (.n (.n .o 72 (true,8) .o) 73 (true,8) (.n .o 74 (true,2) .o))) 75 (true,2) (.n (.n (.n .o 76 (true,3) .o) 77 (true,3) (.n .o 78 (false,1) .o)) 79 (false,1) (.n (.n .o 80 (true,2) .o) 81 (true,2) (.n .o 82 (false,1) .o)))) 86 (false,1) (.n (.n (.n (.n .o 87 (false,1) .o) 88 (false,1) (.n .o 89 (false,1) .o)) 90 (false,1) (.n (.n .o 91 (false,1) .o) 92 (false,1) (.n .o 93 (false,1) .o))) 94 (false,1) (.n (.n (.n .o 95 (true,3) .o) 96 (true,3) (.n .o 97 (false,1) .o)) 98 (false,1) (.n (.n .o 99 (false,1) .o) 100 (false,1) .o)))) 101 (false,1) (.n (.n (.n (.n (.n .o 102 (false,1) .o) 103 (false,1) (.n .o 104 (false,1) .o)) 105 (false,1) (.n (.n .o 106 (false,1) .o) 107 (false,1) (.n .o 108 (false,1) .o))) 109 (false,1) (.n (.n (.n .o 110 (false,1) .o) 111 (false,1) (.n .o 112 (false,1) .o)) 113 (false,1) (.n (.n .o 114 (false,1) .o) 115 (false,1) .o))) 116 (false,1) (.n (.n (.n (.n .o 117 (false,1) .o) 118 (false,1) (.n .o 119 (false,1) .o)) 120 (false,1) (.n (.n .o 121 (true,0) .o) 122 (true,0) (.n .o 124 (false,1) .o))) 125 (false,1) (.n (.n (.n .o 126 (false,1) .o) 127 (false,1) (.n .o 128 (false,1) .o)) 129 (false,1) (.n (.n .o 130 (false,1) .o) 131 (false,1) .o)))))) 132 (false,1) (.n (.n (.n (.n (.n (.n (.n .o 133 (false,1) .o) 134 (false,1) (.n .o 135 (false,1) .o)) 136 (false,1) (.n (.n .o 137 (false,1) .o) 138 (false,1) (.n .o 139 (false,1) .o))) 140 (false,1) (.n (.n (.n .o 141 (false,1) .o) 142 (false,1) (.n .o 143 (false,1) .o)) 144 (false,1) (.n (.n .o 145 (true,3) .o) 146 (true,3) (.n .o 147 (false,1) .o)))) 148 (false,1) (.n (.n (.n (.n .o 149 (false,1) .o) 150 (false,1) (.n .o 151 (false,1) .o)) 152 (false,1) (.n (.n .o 153 (false,1) .o) 154 (false,1) (.n .o 155 (true,11) .o))) 156 (true,11) (.n (.n (.n .o 157 (false,1) .o) 158 (false,1) (.n .o 159 (false,1) .o)) 160 (false,1) (.n (.n .o 161 (false,1) .o) 162 (false,1) .o)))) 163 (false,1) (.n (.n (.n (.n (.n .o 164 (false,1) .o) 165 (false,1) (.n .o 166 (false,1) .o)) 167 (false,1) (.n (.n .o 168 (false,1) .o) 169 (false,1) (.n .o 170 (false,1) .o))) 171 (false,1) (.n (.n (.n .o 172 (false,1) .o) 173 (false,1) (.n .o 174 (false,1) .o)) 175 (false,1) (.n (.n .o 176 (false,1) .o) 178 (false,1) .o))) 180 (false,1) (.n (.n (.n (.n .o 181 (false,1) .o) 182 (false,1) (.n .o 183 (false,1) .o)) 184 (false,1) (.n (.n .o 185 (false,1) .o) 186 (false,1) (.n .o 187 (false,1) .o))) 188 (false,1) (.n (.n (.n .o 189 (true,256) .o) 190 (true,256) (.n .o 192 (false,1) .o)) 193 (false,1) (.n (.n .o 194 (false,1) .o) 195 (false,1) .o))))) 196 (false,1) (.n (.n (.n (.n (.n (.n .o 197 (false,1) .o) 198 (false,1) (.n .o 199 (false,1) .o)) 200 (false,1) (.n (.n .o 201 (false,1) .o) 202 (false,1) (.n .o 203 (false,1) .o))) 204 (false,1) (.n (.n (.n .o 205 (false,1) .o) 206 (false,1) (.n .o 207 (false,1) .o)) 208 (false,1) (.n (.n .o 209 (true,24) .o) 210 (false,1) (.n .o 211 (false,1) .o)))) 212 (false,1) (.n (.n (.n (.n .o 214 (false,1) .o) 215 (false,1) (.n .o 217 (false,1) .o)) 219 (false,1) (.n (.n .o 220 (false,1) .o) 221 (false,1) (.n .o 223 (false,1) .o))) 224 (false,1) (.n (.n (.n .o 225 (false,1) .o) 226 (false,1) (.n .o 227 (false,1) .o)) 228 (false,1) (.n (.n .o 229 (false,1) .o) 230 (false,1) .o)))) 231 (true,20) (.n (.n (.n (.n (.n .o 232 (true,65) .o) 233 (false,1) (.n .o 235 (false,1) .o)) 236 (true,3) (.n (.n .o 237 (true,3) .o) 238 (false,1) (.n .o 239 (false,1) .o))) 240 (true,256) (.n (.n (.n .o 241 (true,2) .o) 242 (true,2) (.n .o 243 (true,32) .o)) 244 (false,1) (.n (.n .o 245 (false,1) .o) 246 (true,1) .o))) 247 (true,1) (.n (.n (.n (.n .o 248 (true,32) .o) 249 (true,64) (.n .o 250 (true,4) .o)) 251 (true,4) (.n (.n .o 252 (true,0) .o) 253 (true,0) (.n .o 254 (true,0) .o))) 255 (false,1) (.n (.n (.n .o 256 (false,1) .o) 257 (false,1) (.n .o 258 (false,1) .o)) 259 (false,1) (.n (.n .o 260 (true,11) .o) 261 (true,11) .o)))))))
 st:=(.n (.n (.n (.n .o 23 (9,1,16) .o) 24 (65,4,40) (.n .o 25 (67,3,48) .o)) 26 (69,3,40) (.n (.n .o 27 (73,8,152) .o) 28 (77,3,40) .o)) 29 (96,3,24) (.n (.n (.n .o 30 (96,3,24) .o) 43 (3,1,8) (.n .o 51 (50,3,24) .o)) 71 (75,2,16) (.n (.n .o 79 (5,1,1) .o) 82 (23,1,24) .o)))
 fk:=by kernel_rfl
 kk:=by kernel_rfl
 sk:=by kernel_rfl
end Go.Proofs.YtkekjhcmephhjaaGreatDoor
