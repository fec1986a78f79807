/- Merged texts of this proof (walks and plain laws), printed by a program of the prover. -/
import Derived.Test.YtmoojmgihdgceaaGreatDoorZb
import Derived.Test.YtmoojmgihdgceaaGreatDoorProg
import Derived.KernelRfl
namespace Go.Proofs.YtmoojmgihdgceaaGreatDoor
open Go.Proofs Tryz
theorem mixed:prog.follows .mixedOrders=true:=by kernel_rfl
theorem tk3:tk prog 3=some (false,1):=by kernel_rfl
theorem tk4:tk prog 4=some (false,1):=by kernel_rfl
theorem tk9:tk prog 9=some (false,1):=by kernel_rfl
theorem tk22:tk prog 22=some (false,1):=by kernel_rfl
theorem tk26:tk prog 26=some (false,1):=by kernel_rfl
theorem tk29:tk prog 29=some (false,1):=by kernel_rfl
theorem tk31:tk prog 31=some (true,8):=by kernel_rfl
theorem tk32:tk prog 32=some (false,1):=by kernel_rfl
theorem tk33:tk prog 33=some (false,1):=by kernel_rfl
theorem tk34:tk prog 34=some (false,1):=by kernel_rfl
theorem tk36:tk prog 36=some (true,12):=by kernel_rfl
theorem tk37:tk prog 37=some (false,1):=by kernel_rfl
theorem tk42:tk prog 42=some (false,1):=by kernel_rfl
theorem tk49:tk prog 49=some (true,3):=by kernel_rfl
theorem tk66:tk prog 66=some (false,1):=by kernel_rfl
theorem tk67:tk prog 67=some (false,1):=by kernel_rfl
theorem tk69:tk prog 69=some (true,2):=by kernel_rfl
theorem tk76:tk prog 76=some (true,7):=by kernel_rfl
theorem tk95:tk prog 95=some (true,3):=by kernel_rfl
theorem tk96:tk prog 96=some (false,1):=by kernel_rfl
theorem tk98:tk prog 98=some (true,4):=by kernel_rfl
theorem Zl:tk prog 111=some (false,1):=by kernel_rfl
theorem Jbc:tk prog 114=some (true,4):=by kernel_rfl
theorem Zo:tk prog 123=some (true,8):=by kernel_rfl
theorem Z5:tk prog 212=some (false,1):=by kernel_rfl
theorem XF:tk prog 265=some (false,1):=by kernel_rfl
theorem zv3:zv prog 3=some [.int .i64 0]:=by kernel_rfl
theorem zv4:zv prog 4=some [.bool false]:=by kernel_rfl
theorem zv9:zv prog 9=some [.string ⟨#[]⟩]:=by kernel_rfl
theorem zv31:zv prog 31=some [.slice none 0 0,.slice none 0 0,.slice none 0 0,.slice none 0 0,.slice none 0 0,.slice none 0 0,.int .i64 0,.slice none 0 0]:=by kernel_rfl
theorem zv36:zv prog 36=some [.slice none 0 0,.slice none 0 0,.slice none 0 0,.slice none 0 0,.slice none 0 0,.slice none 0 0,.int .i64 0,.slice none 0 0,.slice none 0 0,.slice none 0 0,.slice none 0 0,.int .i64 0]:=by kernel_rfl
theorem zv37:zv prog 37=some [.slice none 0 0]:=by kernel_rfl
theorem zv42:zv prog 42=some [.slice none 0 0]:=by kernel_rfl
theorem zv49:zv prog 49=some [.int .i64 0,.int .i64 0,.int .i64 0]:=by kernel_rfl
theorem zv51:zv prog 51=some (List.replicate 7 (.int .i64 0)):=by kernel_rfl
theorem zv54:zv prog 54=some (List.replicate 4 (.int .i64 0)):=by kernel_rfl
theorem zv66:zv prog 66=some [.slice none 0 0]:=by kernel_rfl
theorem zv69:zv prog 69=some [.slice none 0 0,.slice none 0 0]:=by kernel_rfl
theorem zv74:zv prog 74=some [.int .i64 0,.int .i64 0]:=by kernel_rfl
theorem zv76:zv prog 76=some [.int .i64 0,.int .i64 0,.int .i64 0,.int .i64 0,.int .i64 0,.slice none 0 0,.bool false]:=by kernel_rfl
theorem zv80:zv prog 80=some [.string ⟨#[]⟩,.int .i64 0,.int .i64 0,.slice none 0 0,.int .i64 0,.int .i64 0,.int .i64 0,.int .i64 0,.int .i64 0,.slice none 0 0,.bool false]:=by kernel_rfl
theorem zv88:zv prog 88=some [.slice none 0 0,.slice none 0 0,.nilFunc,.slice none 0 0]:=by kernel_rfl
theorem zv90:zv prog 90=some [.pointer none]:=by kernel_rfl
theorem zv95:zv prog 95=some [.slice none 0 0,.slice none 0 0,.slice none 0 0]:=by kernel_rfl
theorem zv98:zv prog 98=some (List.replicate 4 (.slice none 0 0)):=by kernel_rfl
theorem Jaw:zv prog 100=some [.slice none 0 0,.slice none 0 0,.slice none 0 0,.slice none 0 0,.slice none 0 0,.slice none 0 0,.int .i64 0,.slice none 0 0,.slice none 0 0,.slice none 0 0,.slice none 0 0,.int .i64 0,.slice none 0 0,.slice none 0 0,.slice none 0 0,.slice none 0 0,.bool false,.int .i64 0,.int .i64 0,.int .i64 0,.int .i64 0]:=by kernel_rfl
theorem SE:zv prog 112=some [.slice none 0 0]:=by kernel_rfl
theorem FO:zv prog 114=some (List.replicate 4 (.int .i64 0)):=by kernel_rfl
theorem G1:zv prog 123=some [.string ⟨#[]⟩,.int .i64 0,.int .i64 0,.slice none 0 0,.slice none 0 0,.slice none 0 0,.slice none 0 0,.slice none 0 0]:=by kernel_rfl
theorem P2:zv prog 138=some [.string ⟨#[]⟩,.int .i64 0,.slice none 0 0]:=by kernel_rfl
theorem N6:zv prog 140=some [.int .i64 0,.int .i64 0,.slice none 0 0]:=by kernel_rfl
theorem Sq:zv prog 142=some [.int .i64 0,.int .i64 0]:=by kernel_rfl
theorem TA:zv prog 144=some [.slice none 0 0,.int .i64 0,.int .i64 0]:=by kernel_rfl
theorem TL:zv prog 152=some [.int .i64 0,.int .i64 0,.bool false]:=by kernel_rfl
theorem PL:zv prog 159=some [.string ⟨#[]⟩,.int .i64 0,.int .i64 0,.int .i64 0]:=by kernel_rfl
theorem ZY:zv prog 182=some [.slice none 0 0,.slice none 0 0,.map none]:=by kernel_rfl
theorem NB:zv prog 190=some [.slice none 0 0,.slice none 0 0,.slice none 0 0,.slice none 0 0,.slice none 0 0,.slice none 0 0,.int .i64 0,.slice none 0 0,.slice none 0 0,.slice none 0 0,.slice none 0 0,.int .i64 0,.slice none 0 0,.slice none 0 0,.slice none 0 0,.slice none 0 0,.map none]:=by kernel_rfl
theorem ZR:zv prog 211=some [.nilFunc]:=by kernel_rfl
theorem Jay:zv prog 221=some [.pointer none]:=by kernel_rfl
theorem ZW:zv prog 246=some [.slice none 0 0,.slice none 0 0,.slice none 0 0,.slice none 0 0,.slice none 0 0,.slice none 0 0,.int .i64 0,.slice none 0 0,.slice none 0 0,.slice none 0 0,.slice none 0 0]:=by kernel_rfl
theorem Ja2:zv prog 267=some [.pointer none,.slice none 0 0]:=by kernel_rfl
theorem YV:zv prog 300=some (List.replicate 10 (.int .i64 0)):=by kernel_rfl
theorem sl22:sl prog 22=some (9,1,16):=by kernel_rfl
theorem sl23:sl prog 23=some (159,4,40):=by kernel_rfl
theorem sl24:sl prog 24=some (138,3,48):=by kernel_rfl
theorem sl25:sl prog 25=some (140,3,40):=by kernel_rfl
theorem sl26:sl prog 26=some (123,8,152):=by kernel_rfl
theorem sl27:sl prog 27=some (144,3,40):=by kernel_rfl
theorem sl29:sl prog 29=some (152,3,24):=by kernel_rfl
theorem sl32:sl prog 32=some (74,2,16):=by kernel_rfl
theorem sl33:sl prog 33=some (37,1,24):=by kernel_rfl
theorem sl34:sl prog 34=some (80,11,128):=by kernel_rfl
theorem sl37:sl prog 37=some (3,1,8):=by kernel_rfl
theorem sl38:sl prog 38=some (51,7,56):=by kernel_rfl
theorem sl42:sl prog 42=some (49,3,24):=by kernel_rfl
theorem sl52:sl prog 52=some (54,4,32):=by kernel_rfl
theorem sl66:sl prog 66=some (98,4,96):=by kernel_rfl
theorem sl67:sl prog 67=some (112,1,24):=by kernel_rfl
theorem sl77:sl prog 77=some (76,7,72):=by kernel_rfl
theorem sl96:sl prog 96=some (4,1,1):=by kernel_rfl
theorem Nl:sl prog 112=some (114,4,32):=by kernel_rfl
theorem VM:sl prog 121=some (142,2,16):=by kernel_rfl
theorem Jae:sl prog 265=some (5,1,1):=by kernel_rfl
theorem EA:arr prog 300=some (10,1):=by kernel_rfl
theorem Ja1:plc prog 31=some [(0,1),(1,1),(2,1),(3,1),(4,1),(5,1),(6,1),(7,1)]:=by kernel_rfl
theorem ZS:plc prog 36=some [(0,8),(8,1),(9,1),(10,1),(11,1)]:=by kernel_rfl
theorem W3:plc prog 49=some [(0,1),(1,1),(2,1)]:=by kernel_rfl
theorem IH:plc prog 51=some [(0,1),(1,1),(2,3),(5,1),(6,1)]:=by kernel_rfl
theorem YW:plc prog 54=some [(0,1),(1,3)]:=by kernel_rfl
theorem Pz:plc prog 69=some [(0,1),(1,1)]:=by kernel_rfl
theorem Ja7:plc prog 74=some [(0,1),(1,1)]:=by kernel_rfl
theorem Vr:plc prog 76=some [(0,1),(1,1),(2,1),(3,1),(4,1),(5,1),(6,1)]:=by kernel_rfl
theorem Jav:plc prog 88=some [(0,2),(2,1),(3,1)]:=by kernel_rfl
theorem Ew:plc prog 95=some [(0,1),(1,1),(2,1)]:=by kernel_rfl
theorem C6:plc prog 98=some [(0,3),(3,1)]:=by kernel_rfl
theorem Zk:plc prog 100=some [(0,12),(12,4),(16,1),(17,1),(18,1),(19,1),(20,1)]:=by kernel_rfl
theorem PO:plc prog 114=some [(0,3),(3,1)]:=by kernel_rfl
theorem Y7:plc prog 182=some [(0,2),(2,1)]:=by kernel_rfl
theorem H7:plc prog 190=some [(0,12),(12,4),(16,1)]:=by kernel_rfl
theorem Xx:plc prog 246=some [(0,8),(8,3)]:=by kernel_rfl
theorem ent5:Ent prog 5:=Aa func5 (by kernel_rfl) rfl
theorem ent6:Ent prog 6:=Aa func6 (by kernel_rfl) rfl
theorem ent7:Ent prog 7:=Aa func7 (by kernel_rfl) rfl
theorem ent8:Ent prog 8:=Aa func8 (by kernel_rfl) rfl
theorem ent9:Ent prog 9:=Aa func9 (by kernel_rfl) rfl
theorem Ja4:Ent prog 10:=Aa func10 (by kernel_rfl) rfl
theorem Z0:Ent prog 11:=Aa func11 (by kernel_rfl) rfl
theorem Jbh:Ent prog 12:=Aa func12 (by kernel_rfl) rfl
theorem Xg:Ent prog 17:=Aa func17 (by kernel_rfl) rfl
theorem Ya:Ent prog 18:=Aa func18 (by kernel_rfl) rfl
theorem Jau:Ent prog 19:=Aa func19 (by kernel_rfl) rfl
theorem Xn:Ent prog 20:=Aa func20 (by kernel_rfl) rfl
theorem Jal:Ent prog 21:=Aa func21 (by kernel_rfl) rfl
theorem Jbb:Ent prog 22:=Aa func22 (by kernel_rfl) rfl
theorem QC:Ent prog 23:=Aa func23 (by kernel_rfl) rfl
theorem Jax:Ent prog 24:=Aa func24 (by kernel_rfl) rfl
theorem Ye:Ent prog 25:=Aa func25 (by kernel_rfl) rfl
theorem Yl:Ent prog 26:=Aa func26 (by kernel_rfl) rfl
theorem Jm:Ent prog 27:=Aa func27 (by kernel_rfl) rfl
theorem J2:Ent prog 28:=Aa func28 (by kernel_rfl) rfl
theorem FS:Ent prog 29:=Aa func29 (by kernel_rfl) rfl
theorem Zj:Ent prog 30:=Aa func30 (by kernel_rfl) rfl
theorem Q9:Ent prog 31:=Aa func31 (by kernel_rfl) rfl
theorem VQ:Ent prog 32:=Aa func32 (by kernel_rfl) rfl
theorem Ze:Ent prog 33:=Aa func33 (by kernel_rfl) rfl
theorem ZU:Ent prog 34:=Aa func34 (by kernel_rfl) rfl
theorem Zi:Ent prog 35:=Aa func35 (by kernel_rfl) rfl
theorem Jah:Ent prog 36:=Aa func36 (by kernel_rfl) rfl
theorem Ja8:Ent prog 37:=Aa func37 (by kernel_rfl) rfl
theorem WQ:Ent prog 38:=Aa func38 (by kernel_rfl) rfl
theorem Jap:Ent prog 39:=Aa func39 (by kernel_rfl) rfl
theorem Jaq:Ent prog 40:=Aa func40 (by kernel_rfl) rfl
theorem Jab:Ent prog 44:=Aa func44 (by kernel_rfl) rfl
theorem U6:Ent prog 45:=Aa func45 (by kernel_rfl) rfl
theorem SI:Ent prog 46:=Aa func46 (by kernel_rfl) rfl
theorem ZT:Ent prog 47:=Aa func47 (by kernel_rfl) rfl
theorem Jak:Ent prog 48:=Aa func48 (by kernel_rfl) rfl
theorem N4:Ent prog 49:=Aa func49 (by kernel_rfl) rfl
theorem UZ:Ent prog 50:=Aa func50 (by kernel_rfl) rfl
theorem Ja3:Ent prog 51:=Aa func51 (by kernel_rfl) rfl
theorem VR:Ent prog 52:=Aa func52 (by kernel_rfl) rfl
theorem ZZ:Ent prog 53:=Aa func53 (by kernel_rfl) rfl
theorem ZF:Ent prog 54:=Aa func54 (by kernel_rfl) rfl
theorem Jao:Ent prog 55:=Aa func55 (by kernel_rfl) rfl
theorem Jad:Ent prog 56:=Aa func56 (by kernel_rfl) rfl
theorem O0:Ent prog 57:=Aa func57 (by kernel_rfl) rfl
theorem U8:Ent prog 58:=Aa func58 (by kernel_rfl) rfl
theorem V3:Ent prog 59:=Aa func59 (by kernel_rfl) rfl
theorem Jas:Ent prog 60:=Aa func60 (by kernel_rfl) rfl
theorem V5:Ent prog 61:=Aa func61 (by kernel_rfl) rfl
theorem Jbl:Ent prog 62:=Aa func62 (by kernel_rfl) rfl
theorem YY:Ent prog 63:=Aa func63 (by kernel_rfl) rfl
theorem U3:Ent prog 64:=Aa func64 (by kernel_rfl) rfl
theorem Zn:Ent prog 65:=Aa func65 (by kernel_rfl) rfl
theorem TC:Ent prog 66:=Aa func66 (by kernel_rfl) rfl
theorem YL:Ent prog 67:=Aa func67 (by kernel_rfl) rfl
theorem QJ:Ent prog 73:=Aa func73 (by kernel_rfl) rfl
theorem WH:Ent prog 74:=Aa func74 (by kernel_rfl) rfl
theorem KJ:Ent prog 75:=Aa func75 (by kernel_rfl) rfl
theorem EU:Ent prog 76:=Aa func76 (by kernel_rfl) rfl
theorem Jaf:Ent prog 77:=Aa func77 (by kernel_rfl) rfl
theorem Sb:Ent prog 78:=Aa func78 (by kernel_rfl) rfl
theorem FN:Ent prog 79:=Aa func79 (by kernel_rfl) rfl
theorem X8:Ent prog 80:=Aa func80 (by kernel_rfl) rfl
theorem Jar:Ent prog 81:=Aa func81 (by kernel_rfl) rfl
theorem Jan:Ent prog 82:=Aa func82 (by kernel_rfl) rfl
theorem Yr:Ent prog 83:=Aa func83 (by kernel_rfl) rfl
theorem Jbi:Ent prog 84:=Aa func84 (by kernel_rfl) rfl
theorem YO:Ent prog 85:=Aa func85 (by kernel_rfl) rfl
theorem Qw:Ent prog 86:=Aa func86 (by kernel_rfl) rfl
theorem Jaa:Ent prog 87:=Aa func87 (by kernel_rfl) rfl
theorem Jag:Ent prog 88:=Aa func88 (by kernel_rfl) rfl
theorem ZM:Ent prog 89:=Aa func89 (by kernel_rfl) rfl
theorem R0:Ent prog 90:=Aa func90 (by kernel_rfl) rfl
theorem Z6:Ent prog 91:=Aa func91 (by kernel_rfl) rfl
theorem Ja0:Ent prog 92:=Aa func92 (by kernel_rfl) rfl
theorem ZP:Ent prog 93:=Aa func93 (by kernel_rfl) rfl
theorem Jbg:Ent prog 94:=Aa func94 (by kernel_rfl) rfl
theorem YX:Ent prog 95:=Aa func95 (by kernel_rfl) rfl
theorem Jac:Ent prog 96:=Aa func96 (by kernel_rfl) rfl
theorem Jai:Ent prog 97:=Aa func97 (by kernel_rfl) rfl
theorem Yo:Ent prog 98:=Aa func98 (by kernel_rfl) rfl
theorem Jbf:Ent prog 99:=Aa func99 (by kernel_rfl) rfl
theorem Uv:Ent prog 100:=Aa func100 (by kernel_rfl) rfl
theorem Xq:Ent prog 101:=Aa func101 (by kernel_rfl) rfl
theorem DN:Ent prog 102:=Aa func102 (by kernel_rfl) rfl
theorem OP:Ent prog 103:=Aa func103 (by kernel_rfl) rfl
theorem M1:Ent prog 104:=Aa func104 (by kernel_rfl) rfl
theorem JD:Ent prog 105:=Aa func105 (by kernel_rfl) rfl
theorem YG:Ent prog 106:=Aa func106 (by kernel_rfl) rfl
theorem JY:Ent prog 110:=Aa func110 (by kernel_rfl) rfl
theorem ZA:Ent prog 111:=Aa func111 (by kernel_rfl) rfl
theorem PY:Ent prog 112:=Aa func112 (by kernel_rfl) rfl
theorem Us:Ent prog 113:=Aa func113 (by kernel_rfl) rfl
theorem UE:Ent prog 114:=Aa func114 (by kernel_rfl) rfl
theorem PU:Ent prog 115:=Aa func115 (by kernel_rfl) rfl
theorem XO:Ent prog 116:=Aa func116 (by kernel_rfl) rfl
theorem YM:Ent prog 117:=Aa func117 (by kernel_rfl) rfl
theorem Xs:Ent prog 118:=Aa func118 (by kernel_rfl) rfl
theorem XD:Ent prog 119:=Aa func119 (by kernel_rfl) rfl
theorem YE:Ent prog 120:=Aa func120 (by kernel_rfl) rfl
theorem LZ:Ent prog 121:=Aa func121 (by kernel_rfl) rfl
theorem HQ:Ent prog 122:=Aa func122 (by kernel_rfl) rfl
theorem Ex:Ent prog 123:=Aa func123 (by kernel_rfl) rfl
theorem Ut:Ent prog 124:=Aa func124 (by kernel_rfl) rfl
theorem F5:Ent prog 125:=Aa func125 (by kernel_rfl) rfl
theorem Ry:Ent prog 126:=Aa func126 (by kernel_rfl) rfl
theorem UP:Ent prog 127:=Aa func127 (by kernel_rfl) rfl
theorem Xy:Ent prog 128:=Aa func128 (by kernel_rfl) rfl
theorem Y6:Ent prog 129:=Aa func129 (by kernel_rfl) rfl
theorem Y0:Ent prog 130:=Aa func130 (by kernel_rfl) rfl
theorem XM:Ent prog 131:=Aa func131 (by kernel_rfl) rfl
theorem XZ:Ent prog 132:=Aa func132 (by kernel_rfl) rfl
theorem Zy:Ent prog 133:=Aa func133 (by kernel_rfl) rfl
theorem Xt:Ent prog 134:=Aa func134 (by kernel_rfl) rfl
theorem J1:Ent prog 135:=Aa func135 (by kernel_rfl) rfl
theorem Ip:Ent prog 136:=Aa func136 (by kernel_rfl) rfl
theorem Hs:Ent prog 137:=Aa func137 (by kernel_rfl) rfl
theorem RL:Ent prog 138:=Aa func138 (by kernel_rfl) rfl
theorem UF:Ent prog 139:=Aa func139 (by kernel_rfl) rfl
theorem YF:Ent prog 140:=Aa func140 (by kernel_rfl) rfl
theorem Yg:Ent prog 141:=Aa func141 (by kernel_rfl) rfl
theorem Fo:Ent prog 142:=Aa func142 (by kernel_rfl) rfl
theorem M3:Ent prog 143:=Aa func143 (by kernel_rfl) rfl
theorem Zw:Ent prog 144:=Aa func144 (by kernel_rfl) rfl
theorem UB:Ent prog 145:=Aa func145 (by kernel_rfl) rfl
theorem F3:Ent prog 146:=Aa func146 (by kernel_rfl) rfl
theorem Un:Ent prog 147:=Aa func147 (by kernel_rfl) rfl
theorem Rb:Ent prog 148:=Aa func148 (by kernel_rfl) rfl
theorem Mb:Ent prog 149:=Aa func149 (by kernel_rfl) rfl
theorem Zm:Ent prog 152:=Aa func152 (by kernel_rfl) rfl
theorem YI:Ent prog 153:=Aa func153 (by kernel_rfl) rfl
theorem ZE:Ent prog 154:=Aa func154 (by kernel_rfl) rfl
theorem Uf:Ent prog 155:=Aa func155 (by kernel_rfl) rfl
theorem Zf:Ent prog 156:=Aa func156 (by kernel_rfl) rfl
theorem Yt:Ent prog 157:=Aa func157 (by kernel_rfl) rfl
theorem MU:Ent prog 158:=Aa func158 (by kernel_rfl) rfl
theorem ZD:Ent prog 159:=Aa func159 (by kernel_rfl) rfl
theorem W7:Ent prog 160:=Aa func160 (by kernel_rfl) rfl
theorem Yd:Ent prog 161:=Aa func161 (by kernel_rfl) rfl
theorem UL:Ent prog 162:=Aa func162 (by kernel_rfl) rfl
theorem XW:Ent prog 163:=Aa func163 (by kernel_rfl) rfl
theorem Xj:Ent prog 164:=Aa func164 (by kernel_rfl) rfl
theorem ZH:Ent prog 165:=Aa func165 (by kernel_rfl) rfl
theorem UA:Ent prog 166:=Aa func166 (by kernel_rfl) rfl
theorem Mv:Ent prog 169:=Aa func169 (by kernel_rfl) rfl
theorem CA:Ent prog 170:=Aa func170 (by kernel_rfl) rfl
theorem QM:Ent prog 171:=Aa func171 (by kernel_rfl) rfl
theorem YZ:Ent prog 172:=Aa func172 (by kernel_rfl) rfl
theorem MA:Ent prog 173:=Aa func173 (by kernel_rfl) rfl
theorem Yw:Ent prog 174:=Aa func174 (by kernel_rfl) rfl
theorem XL:Ent prog 175:=Aa func175 (by kernel_rfl) rfl
theorem Y4:Ent prog 176:=Aa func176 (by kernel_rfl) rfl
theorem XN:Ent prog 177:=Aa func177 (by kernel_rfl) rfl
theorem YH:Ent prog 178:=Aa func178 (by kernel_rfl) rfl
theorem ZL:Ent prog 179:=Aa func179 (by kernel_rfl) rfl
theorem HV:Ent prog 180:=Aa func180 (by kernel_rfl) rfl
theorem X9:Ent prog 181:=Aa func181 (by kernel_rfl) rfl
theorem Zx:Ent prog 182:=Aa func182 (by kernel_rfl) rfl
theorem Yk:Ent prog 183:=Aa func183 (by kernel_rfl) rfl
theorem YC:Ent prog 184:=Aa func184 (by kernel_rfl) rfl
theorem XY:Ent prog 185:=Aa func185 (by kernel_rfl) rfl
theorem XA:Ent prog 186:=Aa func186 (by kernel_rfl) rfl
theorem Xk:Ent prog 187:=Aa func187 (by kernel_rfl) rfl
theorem Yf:Ent prog 188:=Aa func188 (by kernel_rfl) rfl
theorem Xp:Ent prog 189:=Aa func189 (by kernel_rfl) rfl
theorem Yp:Ent prog 190:=Aa func190 (by kernel_rfl) rfl
theorem Zz:Ent prog 191:=Aa func191 (by kernel_rfl) rfl
theorem Yn:Ent prog 192:=Aa func192 (by kernel_rfl) rfl
theorem Xz:Ent prog 194:=Aa func194 (by kernel_rfl) rfl
theorem Y2:Ent prog 195:=Aa func195 (by kernel_rfl) rfl
theorem ZK:Ent prog 196:=Aa func196 (by kernel_rfl) rfl
theorem UQ:Ent prog 197:=Aa func197 (by kernel_rfl) rfl
theorem Zv:Ent prog 198:=Aa func198 (by kernel_rfl) rfl
theorem XC:Ent prog 199:=Aa func199 (by kernel_rfl) rfl
theorem Zq:Ent prog 200:=Aa func200 (by kernel_rfl) rfl
theorem Xw:Ent prog 201:=Aa func201 (by kernel_rfl) rfl
theorem Xh:Ent prog 202:=Aa func202 (by kernel_rfl) rfl
theorem YA:Ent prog 203:=Aa func203 (by kernel_rfl) rfl
theorem JL:Ent prog 204:=Aa func204 (by kernel_rfl) rfl
theorem JE:Ent prog 205:=Aa func205 (by kernel_rfl) rfl
theorem Pn:Ent prog 206:=Aa func206 (by kernel_rfl) rfl
theorem Xr:Ent prog 207:=Aa func207 (by kernel_rfl) rfl
theorem Uy:Ent prog 208:=Aa func208 (by kernel_rfl) rfl
theorem Xm:Ent prog 209:=Aa func209 (by kernel_rfl) rfl
theorem Ms:Ent prog 210:=Aa func210 (by kernel_rfl) rfl
theorem YT:Ent prog 211:=Aa func211 (by kernel_rfl) rfl
theorem W5:Ent prog 212:=Aa func212 (by kernel_rfl) rfl
theorem Zg:Ent prog 213:=Aa func213 (by kernel_rfl) rfl
theorem XS:Ent prog 214:=Aa func214 (by kernel_rfl) rfl
theorem Yx:Ent prog 215:=Aa func215 (by kernel_rfl) rfl
theorem YN:Ent prog 216:=Aa func216 (by kernel_rfl) rfl
theorem PR:Ent prog 217:=Aa func217 (by kernel_rfl) rfl
theorem US:Ent prog 218:=Aa func218 (by kernel_rfl) rfl
theorem XQ:Ent prog 219:=Aa func219 (by kernel_rfl) rfl
theorem Zt:Ent prog 220:=Aa func220 (by kernel_rfl) rfl
theorem Xf:Ent prog 221:=Aa func221 (by kernel_rfl) rfl
theorem XV:Ent prog 222:=Aa func222 (by kernel_rfl) rfl
theorem YS:Ent prog 223:=Aa func223 (by kernel_rfl) rfl
theorem W8:Ent prog 224:=Aa func224 (by kernel_rfl) rfl
theorem X4:Ent prog 225:=Aa func225 (by kernel_rfl) rfl
theorem XK:Ent prog 226:=Aa func226 (by kernel_rfl) rfl
theorem W6:Ent prog 227:=Aa func227 (by kernel_rfl) rfl
theorem Yi:Ent prog 228:=Aa func228 (by kernel_rfl) rfl
theorem Xe:Ent prog 229:=Aa func229 (by kernel_rfl) rfl
theorem Xd:Ent prog 230:=Aa func230 (by kernel_rfl) rfl
theorem Zr:Ent prog 231:=Aa func231 (by kernel_rfl) rfl
theorem XG:Ent prog 232:=Aa func232 (by kernel_rfl) rfl
theorem Yq:Ent prog 233:=Aa func233 (by kernel_rfl) rfl
theorem Yh:Ent prog 235:=Aa func235 (by kernel_rfl) rfl
theorem Yz:Ent prog 236:=Aa func236 (by kernel_rfl) rfl
theorem Zp:Ent prog 237:=Aa func237 (by kernel_rfl) rfl
theorem X5:Ent prog 238:=Aa func238 (by kernel_rfl) rfl
theorem YQ:Ent prog 239:=Aa func239 (by kernel_rfl) rfl
theorem ZN:Ent prog 240:=Aa func240 (by kernel_rfl) rfl
theorem XX:Ent prog 241:=Aa func241 (by kernel_rfl) rfl
theorem X1:Ent prog 242:=Aa func242 (by kernel_rfl) rfl
theorem XE:Ent prog 243:=Aa func243 (by kernel_rfl) rfl
theorem YK:Ent prog 244:=Aa func244 (by kernel_rfl) rfl
theorem YJ:Ent prog 245:=Aa func245 (by kernel_rfl) rfl
theorem YD:Ent prog 246:=Aa func246 (by kernel_rfl) rfl
theorem YR:Ent prog 249:=Aa func249 (by kernel_rfl) rfl
theorem Xo:Ent prog 250:=Aa func250 (by kernel_rfl) rfl
theorem Zd:Ent prog 251:=Aa func251 (by kernel_rfl) rfl
instance:Fx prog where
 ft:=(.n (.n (.n (.n (.n (.n .o 7 [0,1,2,3] .o) 8 [0,1,2,3] (.n .o 13 [0,1] .o)) 14 [0,1] (.n (.n .o 18 [0] .o) 19 [0] (.n .o 30 [0,1,2,3,4,5,6,7] .o))) 31 [0,1,2,3,4,5,6,7] (.n (.n (.n .o 35 [0,8,9,10,11] .o) 36 [0,8,9,10,11] (.n .o 48 [0,1,2] .o)) 49 [0,1,2] (.n (.n .o 50 [0,1,2,5,6] .o) 51 [0,1,2,5,6] (.n .o 53 [0,1] .o)))) 54 [0,1] (.n (.n (.n (.n .o 68 [0,1] .o) 69 [0,1] (.n .o 73 [0,1] .o)) 74 [0,1] (.n (.n .o 75 [0,1,2,3,4,5,6] .o) 76 [0,1,2,3,4,5,6] (.n .o 79 [0,1,2,3,4] .o))) 80 [0,1,2,3,4] (.n (.n (.n .o 87 [0,2,3] .o) 88 [0,2,3] (.n .o 94 [0,1,2] .o)) 95 [0,1,2] (.n (.n .o 97 [0,3] .o) 98 [0,3] (.n .o 99 [0,12,16,17,18,19,20] .o))))) 100 [0,12,16,17,18,19,20] (.n (.n (.n (.n (.n .o 113 [0,3] .o) 114 [0,3] (.n .o 122 [0,1,2,3,4,5,6,7] .o)) 123 [0,1,2,3,4,5,6,7] (.n (.n .o 134 [0,1] .o) 137 [0,1,2] (.n .o 138 [0,1,2] .o))) 139 [0,1,2] (.n (.n (.n .o 140 [0,1,2] .o) 141 [0,1] (.n .o 142 [0,1] .o)) 143 [0,1] (.n (.n .o 144 [0,1] .o) 151 [0,1,2] (.n .o 152 [0,1,2] .o)))) 158 [0,1,2,3] (.n (.n (.n (.n .o 159 [0,1,2,3] .o) 181 [0,2] (.n .o 182 [0,2] .o)) 189 [0,12,16] (.n (.n .o 190 [0,12,16] .o) 195 [0,12,16,17] (.n .o 196 [0,12,16,17] .o))) 245 [0,8] (.n (.n (.n .o 246 [0,8] .o) 266 [0,1] (.n .o 267 [0,1] .o)) 319 [0,1,2,3] (.n (.n .o 320 [0,1,2,3] .o) 330 [0,1,2,3,4,5,6,7,8,9,10] (.n .o 331 [0,1,2,3,4,5,6,7,8,9,10] .o))))))
 kt:=(.n (.n (.n (.n (.n (.n (.n (.n (.n .o 1 (false,1) .o) 2 (false,1) .o) 3 (false,1) (.n .o 4 (false,1) .o)) 5 (false,1) (.n (.n (.n .o 6 (false,1) .o) 7 (true,4) .o) 8 (true,4) (.n .o 9 (false,1) .o))) 10 (false,1) (.n (.n (.n (.n .o 11 (false,1) .o) 12 (false,1) .o) 13 (true,2) (.n .o 14 (true,2) .o)) 15 (false,1) (.n (.n (.n .o 16 (false,1) .o) 17 (false,1) .o) 18 (true,1) (.n .o 19 (true,1) .o)))) 21 (false,1) (.n (.n (.n (.n (.n .o 22 (false,1) .o) 23 (false,1) .o) 24 (false,1) (.n .o 25 (false,1) .o)) 26 (false,1) (.n (.n (.n .o 27 (false,1) .o) 28 (false,1) .o) 29 (false,1) (.n .o 30 (true,8) .o))) 31 (true,8) (.n (.n (.n (.n .o 32 (false,1) .o) 33 (false,1) .o) 34 (false,1) (.n .o 35 (true,12) .o)) 36 (true,12) (.n (.n .o 37 (false,1) .o) 38 (false,1) (.n .o 39 (false,1) .o))))) 40 (false,1) (.n (.n (.n (.n (.n (.n .o 41 (false,1) .o) 42 (false,1) .o) 43 (false,1) (.n .o 45 (false,1) .o)) 47 (false,1) (.n (.n (.n .o 48 (true,3) .o) 49 (true,3) .o) 50 (true,7) (.n .o 51 (true,7) .o))) 52 (false,1) (.n (.n (.n (.n .o 53 (true,4) .o) 54 (true,4) .o) 56 (false,1) (.n .o 58 (false,1) .o)) 59 (false,1) (.n (.n .o 60 (false,1) .o) 61 (false,1) (.n .o 63 (false,1) .o)))) 64 (false,1) (.n (.n (.n (.n (.n .o 65 (false,1) .o) 66 (false,1) .o) 67 (false,1) (.n .o 68 (true,2) .o)) 69 (true,2) (.n (.n (.n .o 71 (false,1) .o) 72 (false,1) .o) 73 (true,2) (.n .o 74 (true,2) .o))) 75 (true,7) (.n (.n (.n (.n .o 76 (true,7) .o) 77 (false,1) .o) 78 (false,1) (.n .o 79 (true,11) .o)) 80 (true,11) (.n (.n .o 81 (false,1) .o) 82 (false,1) (.n .o 84 (false,1) .o)))))) 85 (false,1) (.n (.n (.n (.n (.n (.n (.n .o 86 (false,1) .o) 87 (true,4) .o) 88 (true,4) (.n .o 89 (false,1) .o)) 90 (false,1) (.n (.n (.n .o 92 (false,1) .o) 93 (false,1) .o) 94 (true,3) (.n .o 95 (true,3) .o))) 96 (false,1) (.n (.n (.n (.n .o 97 (true,4) .o) 98 (true,4) .o) 99 (true,21) (.n .o 100 (true,21) .o)) 101 (false,1) (.n (.n .o 102 (false,1) .o) 103 (false,1) (.n .o 104 (false,1) .o)))) 105 (false,1) (.n (.n (.n (.n (.n .o 106 (false,1) .o) 107 (false,1) .o) 108 (false,1) (.n .o 109 (false,1) .o)) 110 (false,1) (.n (.n (.n .o 111 (false,1) .o) 112 (false,1) .o) 113 (true,4) (.n .o 114 (true,4) .o))) 115 (false,1) (.n (.n (.n (.n .o 116 (false,1) .o) 117 (false,1) .o) 118 (false,1) (.n .o 119 (false,1) .o)) 120 (false,1) (.n (.n .o 121 (false,1) .o) 122 (true,8) (.n .o 123 (true,8) .o))))) 124 (false,1) (.n (.n (.n (.n (.n (.n .o 125 (false,1) .o) 127 (false,1) .o) 128 (false,1) (.n .o 129 (false,1) .o)) 130 (false,1) (.n (.n (.n .o 131 (false,1) .o) 133 (false,1) .o) 134 (true,2) (.n .o 135 (false,1) .o))) 136 (false,1) (.n (.n (.n (.n .o 137 (true,3) .o) 138 (true,3) .o) 139 (true,3) (.n .o 140 (true,3) .o)) 141 (true,2) (.n (.n .o 142 (true,2) .o) 143 (true,3) (.n .o 144 (true,3) .o)))) 145 (false,1) (.n (.n (.n (.n (.n .o 146 (false,1) .o) 147 (false,1) .o) 148 (false,1) (.n .o 149 (false,1) .o)) 150 (false,1) (.n (.n (.n .o 151 (true,3) .o) 152 (true,3) .o) 153 (false,1) (.n .o 155 (false,1) .o))) 156 (false,1) (.n (.n (.n (.n .o 157 (false,1) .o) 158 (true,4) .o) 159 (true,4) (.n .o 160 (false,1) .o)) 161 (false,1) (.n (.n .o 162 (false,1) .o) 163 (false,1) (.n .o 164 (false,1) .o))))))) 165 (false,1) (.n (.n (.n (.n (.n (.n (.n (.n .o 166 (false,1) .o) 167 (false,1) .o) 169 (false,1) (.n .o 170 (false,1) .o)) 171 (false,1) (.n (.n (.n .o 172 (false,1) .o) 173 (false,1) .o) 175 (false,1) (.n .o 176 (false,1) .o))) 177 (false,1) (.n (.n (.n (.n .o 178 (false,1) .o) 179 (false,1) .o) 180 (false,1) (.n .o 181 (true,3) .o)) 182 (true,3) (.n (.n (.n .o 183 (false,1) .o) 184 (false,1) .o) 185 (false,1) (.n .o 187 (false,1) .o)))) 188 (false,1) (.n (.n (.n (.n (.n .o 189 (true,17) .o) 190 (true,17) .o) 191 (false,1) (.n .o 193 (false,1) .o)) 194 (false,1) (.n (.n (.n .o 195 (true,18) .o) 196 (true,18) .o) 197 (false,1) (.n .o 198 (false,1) .o))) 199 (false,1) (.n (.n (.n (.n .o 200 (false,1) .o) 201 (false,1) .o) 203 (false,1) (.n .o 204 (false,1) .o)) 205 (false,1) (.n (.n .o 206 (false,1) .o) 207 (false,1) (.n .o 208 (false,1) .o))))) 209 (false,1) (.n (.n (.n (.n (.n (.n .o 210 (false,1) .o) 211 (false,1) .o) 212 (false,1) (.n .o 213 (false,1) .o)) 214 (false,1) (.n (.n (.n .o 215 (false,1) .o) 216 (false,1) .o) 217 (false,1) (.n .o 219 (false,1) .o))) 220 (false,1) (.n (.n (.n (.n .o 221 (false,1) .o) 222 (false,1) .o) 223 (false,1) (.n .o 224 (false,1) .o)) 225 (false,1) (.n (.n .o 226 (false,1) .o) 227 (false,1) (.n .o 228 (false,1) .o)))) 229 (false,1) (.n (.n (.n (.n (.n .o 230 (false,1) .o) 231 (false,1) .o) 232 (false,1) (.n .o 233 (false,1) .o)) 234 (false,1) (.n (.n (.n .o 235 (false,1) .o) 236 (false,1) .o) 237 (false,1) (.n .o 238 (false,1) .o))) 239 (false,1) (.n (.n (.n (.n .o 241 (false,1) .o) 242 (false,1) .o) 244 (false,1) (.n .o 245 (true,11) .o)) 246 (true,11) (.n (.n .o 247 (false,1) .o) 248 (false,1) (.n .o 249 (false,1) .o)))))) 250 (false,1) (.n (.n (.n (.n (.n (.n (.n .o 251 (false,1) .o) 252 (false,1) .o) 253 (false,1) (.n .o 254 (false,1) .o)) 255 (false,1) (.n (.n (.n .o 256 (false,1) .o) 257 (false,1) .o) 258 (false,1) (.n .o 259 (false,1) .o))) 260 (false,1) (.n (.n (.n (.n .o 261 (false,1) .o) 262 (false,1) .o) 263 (false,1) (.n .o 264 (false,1) .o)) 265 (false,1) (.n (.n .o 266 (true,2) .o) 267 (true,2) (.n .o 271 (false,1) .o)))) 272 (false,1) (.n (.n (.n (.n (.n .o 273 (false,1) .o) 274 (false,1) .o) 275 (false,1) (.n .o 276 (false,1) .o)) 277 (false,1) (.n (.n (.n .o 278 (false,1) .o) 279 (false,1) .o) 280 (false,1) (.n .o 281 (false,1) .o))) 282 (false,1) (.n (.n (.n (.n .o 283 (false,1) .o) 284 (false,1) .o) 285 (false,1) (.n .o 286 (false,1) .o)) 288 (false,1) (.n (.n .o 289 (false,1) .o) 290 (false,1) (.n .o 291 (false,1) .o))))) 292 (false,1) (.n (.n (.n (.n (.n (.n .o 293 (false,1) .o) 294 (false,1) .o) 295 (false,1) (.n .o 296 (false,1) .o)) 297 (false,1) (.n (.n (.n .o 298 (false,1) .o) 299 (false,1) .o) 300 (true,10) (.n .o 302 (false,1) .o))) 303 (false,1) (.n (.n (.n (.n .o 304 (false,1) .o) 305 (false,1) .o) 306 (false,1) (.n .o 307 (true,24) .o)) 308 (false,1) (.n (.n .o 309 (false,1) .o) 311 (false,1) (.n .o 312 (false,1) .o)))) 313 (true,20) (.n (.n (.n (.n (.n .o 314 (true,65) .o) 315 (false,1) .o) 316 (false,1) (.n .o 317 (true,32) .o)) 318 (true,64) (.n (.n (.n .o 319 (true,4) .o) 320 (true,4) .o) 321 (true,0) (.n .o 322 (true,0) .o))) 323 (true,0) (.n (.n (.n (.n .o 324 (false,1) .o) 325 (false,1) .o) 326 (false,1) (.n .o 327 (false,1) .o)) 328 (false,1) (.n (.n .o 329 (false,1) .o) 330 (true,11) (.n .o 331 (true,11) .o))))))))
 st:=(.n (.n (.n (.n (.n .o 22 (9,1,16) .o) 23 (159,4,40) .o) 24 (138,3,48) (.n (.n .o 25 (140,3,40) .o) 26 (123,8,152) .o)) 27 (144,3,40) (.n (.n (.n .o 28 (152,3,24) .o) 29 (152,3,24) .o) 32 (74,2,16) (.n (.n .o 33 (37,1,24) .o) 34 (80,11,128) .o))) 37 (3,1,8) (.n (.n (.n (.n .o 38 (51,7,56) .o) 42 (49,3,24) .o) 52 (54,4,32) (.n (.n .o 66 (98,4,96) .o) 67 (112,1,24) .o)) 77 (76,7,72) (.n (.n (.n .o 96 (4,1,1) .o) 112 (114,4,32) .o) 121 (142,2,16) (.n .o 265 (5,1,1) .o))))
 fk:=by kernel_rfl
 kk:=by kernel_rfl
 sk:=by kernel_rfl
theorem zv82:zv prog 82=some [.pointer none]:=by kernel_rfl
theorem Jat:zv prog 111=some [.map none]:=by kernel_rfl
end Go.Proofs.YtmoojmgihdgceaaGreatDoor
