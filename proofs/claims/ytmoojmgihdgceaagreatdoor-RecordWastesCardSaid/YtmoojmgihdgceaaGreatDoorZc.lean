/- Merged texts of this proof (walks and plain laws), printed by a program of the prover. -/
import Derived.Test.YtmoojmgihdgceaaGreatDoorZb
import Derived.Test.YtmoojmgihdgceaaGreatDoorProg
import Derived.KernelRfl
namespace Go.Proofs.YtmoojmgihdgceaaGreatDoor
open Go.Proofs Tryz
theorem mixed:prog.follows .mixedOrders=true:=by kernel_rfl
theorem tk3:tk prog 3=some (false,1):=by kernel_rfl
theorem tk4:tk prog 4=some (false,1):=by kernel_rfl
theorem tk9:tk prog 9=some (false,1):=by kernel_rfl
theorem tk22:tk prog 22=some (false,1):=by kernel_rfl
theorem tk26:tk prog 26=some (false,1):=by kernel_rfl
theorem tk29:tk prog 29=some (false,1):=by kernel_rfl
theorem tk31:tk prog 31=some (true,8):=by kernel_rfl
theorem tk32:tk prog 32=some (false,1):=by kernel_rfl
theorem tk33:tk prog 33=some (false,1):=by kernel_rfl
theorem tk34:tk prog 34=some (false,1):=by kernel_rfl
theorem tk36:tk prog 36=some (true,12):=by kernel_rfl
theorem tk37:tk prog 37=some (false,1):=by kernel_rfl
theorem tk42:tk prog 42=some (false,1):=by kernel_rfl
theorem tk49:tk prog 49=some (true,3):=by kernel_rfl
theorem tk51:tk prog 51=some (true,7):=by kernel_rfl
theorem tk66:tk prog 66=some (false,1):=by kernel_rfl
theorem tk67:tk prog 67=some (false,1):=by kernel_rfl
theorem tk69:tk prog 69=some (true,2):=by kernel_rfl
theorem tk76:tk prog 76=some (true,7):=by kernel_rfl
theorem tk95:tk prog 95=some (true,3):=by kernel_rfl
theorem tk96:tk prog 96=some (false,1):=by kernel_rfl
theorem tk98:tk prog 98=some (true,4):=by kernel_rfl
theorem Kcl:tk prog 111=some (false,1):=by kernel_rfl
theorem J8u:tk prog 112=some (false,1):=by kernel_rfl
theorem Kcg:tk prog 123=some (true,8):=by kernel_rfl
theorem Kgg:tk prog 212=some (false,1):=by kernel_rfl
theorem Ka3:tk prog 265=some (false,1):=by kernel_rfl
theorem zv3:zv prog 3=some [.int .i64 0]:=by kernel_rfl
theorem zv4:zv prog 4=some [.bool false]:=by kernel_rfl
theorem zv9:zv prog 9=some [.string ⟨#[]⟩]:=by kernel_rfl
theorem zv31:zv prog 31=some [.slice none 0 0,.slice none 0 0,.slice none 0 0,.slice none 0 0,.slice none 0 0,.slice none 0 0,.int .i64 0,.slice none 0 0]:=by kernel_rfl
theorem zv36:zv prog 36=some [.slice none 0 0,.slice none 0 0,.slice none 0 0,.slice none 0 0,.slice none 0 0,.slice none 0 0,.int .i64 0,.slice none 0 0,.slice none 0 0,.slice none 0 0,.slice none 0 0,.int .i64 0]:=by kernel_rfl
theorem zv37:zv prog 37=some [.slice none 0 0]:=by kernel_rfl
theorem zv42:zv prog 42=some [.slice none 0 0]:=by kernel_rfl
theorem zv49:zv prog 49=some [.int .i64 0,.int .i64 0,.int .i64 0]:=by kernel_rfl
theorem zv51:zv prog 51=some (List.replicate 7 (.int .i64 0)):=by kernel_rfl
theorem zv54:zv prog 54=some (List.replicate 4 (.int .i64 0)):=by kernel_rfl
theorem zv66:zv prog 66=some [.slice none 0 0]:=by kernel_rfl
theorem zv69:zv prog 69=some [.slice none 0 0,.slice none 0 0]:=by kernel_rfl
theorem zv74:zv prog 74=some [.int .i64 0,.int .i64 0]:=by kernel_rfl
theorem zv76:zv prog 76=some [.int .i64 0,.int .i64 0,.int .i64 0,.int .i64 0,.int .i64 0,.slice none 0 0,.bool false]:=by kernel_rfl
theorem zv80:zv prog 80=some [.string ⟨#[]⟩,.int .i64 0,.int .i64 0,.slice none 0 0,.int .i64 0,.int .i64 0,.int .i64 0,.int .i64 0,.int .i64 0,.slice none 0 0,.bool false]:=by kernel_rfl
theorem zv88:zv prog 88=some [.slice none 0 0,.slice none 0 0,.nilFunc,.slice none 0 0]:=by kernel_rfl
theorem zv90:zv prog 90=some [.pointer none]:=by kernel_rfl
theorem zv95:zv prog 95=some [.slice none 0 0,.slice none 0 0,.slice none 0 0]:=by kernel_rfl
theorem zv98:zv prog 98=some (List.replicate 4 (.slice none 0 0)):=by kernel_rfl
theorem Kfh:zv prog 100=some [.slice none 0 0,.slice none 0 0,.slice none 0 0,.slice none 0 0,.slice none 0 0,.slice none 0 0,.int .i64 0,.slice none 0 0,.slice none 0 0,.slice none 0 0,.slice none 0 0,.int .i64 0,.slice none 0 0,.slice none 0 0,.slice none 0 0,.slice none 0 0,.bool false,.int .i64 0,.int .i64 0,.int .i64 0,.int .i64 0]:=by kernel_rfl
theorem J29:zv prog 112=some [.slice none 0 0]:=by kernel_rfl
theorem Jkl:zv prog 114=some (List.replicate 4 (.int .i64 0)):=by kernel_rfl
theorem Jhh:zv prog 123=some [.string ⟨#[]⟩,.int .i64 0,.int .i64 0,.slice none 0 0,.slice none 0 0,.slice none 0 0,.slice none 0 0,.slice none 0 0]:=by kernel_rfl
theorem Jrc:zv prog 138=some [.string ⟨#[]⟩,.int .i64 0,.slice none 0 0]:=by kernel_rfl
theorem Jo8:zv prog 140=some [.int .i64 0,.int .i64 0,.slice none 0 0]:=by kernel_rfl
theorem Jpp:zv prog 142=some [.int .i64 0,.int .i64 0]:=by kernel_rfl
theorem J18:zv prog 144=some [.slice none 0 0,.int .i64 0,.int .i64 0]:=by kernel_rfl
theorem Jld:zv prog 152=some [.int .i64 0,.int .i64 0,.bool false]:=by kernel_rfl
theorem Jor:zv prog 159=some [.string ⟨#[]⟩,.int .i64 0,.int .i64 0,.int .i64 0]:=by kernel_rfl
theorem Kff:zv prog 182=some [.slice none 0 0,.slice none 0 0,.map none]:=by kernel_rfl
theorem Jvl:zv prog 190=some [.slice none 0 0,.slice none 0 0,.slice none 0 0,.slice none 0 0,.slice none 0 0,.slice none 0 0,.int .i64 0,.slice none 0 0,.slice none 0 0,.slice none 0 0,.slice none 0 0,.int .i64 0,.slice none 0 0,.slice none 0 0,.slice none 0 0,.slice none 0 0,.map none]:=by kernel_rfl
theorem Kfk:zv prog 196=some [.slice none 0 0,.slice none 0 0,.slice none 0 0,.slice none 0 0,.slice none 0 0,.slice none 0 0,.int .i64 0,.slice none 0 0,.slice none 0 0,.slice none 0 0,.slice none 0 0,.int .i64 0,.slice none 0 0,.slice none 0 0,.slice none 0 0,.slice none 0 0,.bool false,.int .i64 0]:=by kernel_rfl
theorem Ker:zv prog 211=some [.nilFunc]:=by kernel_rfl
theorem Keu:zv prog 221=some [.pointer none]:=by kernel_rfl
theorem Kfu:zv prog 246=some [.slice none 0 0,.slice none 0 0,.slice none 0 0,.slice none 0 0,.slice none 0 0,.slice none 0 0,.int .i64 0,.slice none 0 0,.slice none 0 0,.slice none 0 0,.slice none 0 0]:=by kernel_rfl
theorem Key:zv prog 267=some [.pointer none,.slice none 0 0]:=by kernel_rfl
theorem Kbb:zv prog 300=some (List.replicate 10 (.int .i64 0)):=by kernel_rfl
theorem sl22:sl prog 22=some (9,1,16):=by kernel_rfl
theorem sl23:sl prog 23=some (159,4,40):=by kernel_rfl
theorem sl24:sl prog 24=some (138,3,48):=by kernel_rfl
theorem sl25:sl prog 25=some (140,3,40):=by kernel_rfl
theorem sl26:sl prog 26=some (123,8,152):=by kernel_rfl
theorem sl27:sl prog 27=some (144,3,40):=by kernel_rfl
theorem sl29:sl prog 29=some (152,3,24):=by kernel_rfl
theorem sl32:sl prog 32=some (74,2,16):=by kernel_rfl
theorem sl33:sl prog 33=some (37,1,24):=by kernel_rfl
theorem sl34:sl prog 34=some (80,11,128):=by kernel_rfl
theorem sl37:sl prog 37=some (3,1,8):=by kernel_rfl
theorem sl38:sl prog 38=some (51,7,56):=by kernel_rfl
theorem sl42:sl prog 42=some (49,3,24):=by kernel_rfl
theorem sl52:sl prog 52=some (54,4,32):=by kernel_rfl
theorem sl66:sl prog 66=some (98,4,96):=by kernel_rfl
theorem sl67:sl prog 67=some (112,1,24):=by kernel_rfl
theorem sl77:sl prog 77=some (76,7,72):=by kernel_rfl
theorem sl96:sl prog 96=some (4,1,1):=by kernel_rfl
theorem Jmn:sl prog 112=some (114,4,32):=by kernel_rfl
theorem Jxn:sl prog 121=some (142,2,16):=by kernel_rfl
theorem Kf0:sl prog 265=some (5,1,1):=by kernel_rfl
theorem Jgv:arr prog 300=some (10,1):=by kernel_rfl
theorem Kbh:plc prog 31=some [(0,1),(1,1),(2,1),(3,1),(4,1),(5,1),(6,1),(7,1)]:=by kernel_rfl
theorem Kei:plc prog 36=some [(0,8),(8,1),(9,1),(10,1),(11,1)]:=by kernel_rfl
theorem Jz2:plc prog 49=some [(0,1),(1,1),(2,1)]:=by kernel_rfl
theorem Jlc:plc prog 51=some [(0,1),(1,1),(2,3),(5,1),(6,1)]:=by kernel_rfl
theorem Kft:plc prog 54=some [(0,1),(1,3)]:=by kernel_rfl
theorem Jwu:plc prog 69=some [(0,1),(1,1)]:=by kernel_rfl
theorem Kfr:plc prog 74=some [(0,1),(1,1)]:=by kernel_rfl
theorem J2d:plc prog 76=some [(0,1),(1,1),(2,1),(3,1),(4,1),(5,1),(6,1)]:=by kernel_rfl
theorem J9o:plc prog 80=some [(0,1),(1,1),(2,1),(3,1),(4,7)]:=by kernel_rfl
theorem Kf9:plc prog 88=some [(0,2),(2,1),(3,1)]:=by kernel_rfl
theorem Jgt:plc prog 95=some [(0,1),(1,1),(2,1)]:=by kernel_rfl
theorem Jeb:plc prog 98=some [(0,3),(3,1)]:=by kernel_rfl
theorem Kca:plc prog 100=some [(0,12),(12,4),(16,1),(17,1),(18,1),(19,1),(20,1)]:=by kernel_rfl
theorem Jxr:plc prog 114=some [(0,3),(3,1)]:=by kernel_rfl
theorem J5o:plc prog 123=some [(0,1),(1,1),(2,1),(3,1),(4,1),(5,1),(6,1),(7,1)]:=by kernel_rfl
theorem Kdz:plc prog 138=some [(0,1),(1,1),(2,1)]:=by kernel_rfl
theorem J98:plc prog 140=some [(0,1),(1,1),(2,1)]:=by kernel_rfl
theorem J5g:plc prog 142=some [(0,1),(1,1)]:=by kernel_rfl
theorem Jxp:plc prog 152=some [(0,1),(1,1),(2,1)]:=by kernel_rfl
theorem J5a:plc prog 159=some [(0,1),(1,1),(2,1),(3,1)]:=by kernel_rfl
theorem Kbv:plc prog 182=some [(0,2),(2,1)]:=by kernel_rfl
theorem Jlx:plc prog 190=some [(0,12),(12,4),(16,1)]:=by kernel_rfl
theorem Kdb:plc prog 196=some [(0,12),(12,4),(16,1),(17,1)]:=by kernel_rfl
theorem Kaj:plc prog 246=some [(0,8),(8,3)]:=by kernel_rfl
theorem ent5:Ent prog 5:=Jaa func5 (by kernel_rfl) rfl
theorem ent7:Ent prog 7:=Jaa func7 (by kernel_rfl) rfl
theorem ent9:Ent prog 9:=Jaa func9 (by kernel_rfl) rfl
theorem Keq:Ent prog 10:=Jaa func10 (by kernel_rfl) rfl
theorem Kev:Ent prog 11:=Jaa func11 (by kernel_rfl) rfl
theorem J9k:Ent prog 13:=Jaa func13 (by kernel_rfl) rfl
theorem Kds:Ent prog 14:=Jaa func14 (by kernel_rfl) rfl
theorem Kfg:Ent prog 15:=Jaa func15 (by kernel_rfl) rfl
theorem Kb8:Ent prog 16:=Jaa func16 (by kernel_rfl) rfl
theorem Kb9:Ent prog 17:=Jaa func17 (by kernel_rfl) rfl
theorem J8v:Ent prog 18:=Jaa func18 (by kernel_rfl) rfl
theorem Jwy:Ent prog 19:=Jaa func19 (by kernel_rfl) rfl
theorem Kgf:Ent prog 20:=Jaa func20 (by kernel_rfl) rfl
theorem Ke4:Ent prog 21:=Jaa func21 (by kernel_rfl) rfl
theorem Kfq:Ent prog 22:=Jaa func22 (by kernel_rfl) rfl
theorem Kf5:Ent prog 23:=Jaa func23 (by kernel_rfl) rfl
theorem Kcd:Ent prog 25:=Jaa func25 (by kernel_rfl) rfl
theorem Ked:Ent prog 26:=Jaa func26 (by kernel_rfl) rfl
theorem Jmp:Ent prog 27:=Jaa func27 (by kernel_rfl) rfl
theorem Joc:Ent prog 28:=Jaa func28 (by kernel_rfl) rfl
theorem Jir:Ent prog 29:=Jaa func29 (by kernel_rfl) rfl
theorem J99:Ent prog 30:=Jaa func30 (by kernel_rfl) rfl
theorem Jz1:Ent prog 31:=Jaa func31 (by kernel_rfl) rfl
theorem J9b:Ent prog 32:=Jaa func32 (by kernel_rfl) rfl
theorem Kai:Ent prog 33:=Jaa func33 (by kernel_rfl) rfl
theorem Ke0:Ent prog 34:=Jaa func34 (by kernel_rfl) rfl
theorem Kau:Ent prog 35:=Jaa func35 (by kernel_rfl) rfl
theorem Kgh:Ent prog 36:=Jaa func36 (by kernel_rfl) rfl
theorem Kf8:Ent prog 37:=Jaa func37 (by kernel_rfl) rfl
theorem J8d:Ent prog 38:=Jaa func38 (by kernel_rfl) rfl
theorem Kew:Ent prog 39:=Jaa func39 (by kernel_rfl) rfl
theorem Kf1:Ent prog 41:=Jaa func41 (by kernel_rfl) rfl
theorem J9g:Ent prog 42:=Jaa func42 (by kernel_rfl) rfl
theorem Kfe:Ent prog 43:=Jaa func43 (by kernel_rfl) rfl
theorem Ke3:Ent prog 44:=Jaa func44 (by kernel_rfl) rfl
theorem J8y:Ent prog 45:=Jaa func45 (by kernel_rfl) rfl
theorem J4d:Ent prog 46:=Jaa func46 (by kernel_rfl) rfl
theorem Kes:Ent prog 47:=Jaa func47 (by kernel_rfl) rfl
theorem Kfm:Ent prog 48:=Jaa func48 (by kernel_rfl) rfl
theorem Jvn:Ent prog 49:=Jaa func49 (by kernel_rfl) rfl
theorem J75:Ent prog 50:=Jaa func50 (by kernel_rfl) rfl
theorem Kbw:Ent prog 51:=Jaa func51 (by kernel_rfl) rfl
theorem J8t:Ent prog 52:=Jaa func52 (by kernel_rfl) rfl
theorem Kck:Ent prog 53:=Jaa func53 (by kernel_rfl) rfl
theorem J66:Ent prog 54:=Jaa func54 (by kernel_rfl) rfl
theorem Kfa:Ent prog 55:=Jaa func55 (by kernel_rfl) rfl
theorem Kex:Ent prog 56:=Jaa func56 (by kernel_rfl) rfl
theorem Jxw:Ent prog 57:=Jaa func57 (by kernel_rfl) rfl
theorem J7b:Ent prog 58:=Jaa func58 (by kernel_rfl) rfl
theorem Kbg:Ent prog 59:=Jaa func59 (by kernel_rfl) rfl
theorem Kfs:Ent prog 60:=Jaa func60 (by kernel_rfl) rfl
theorem Ket:Ent prog 61:=Jaa func61 (by kernel_rfl) rfl
theorem J93:Ent prog 63:=Jaa func63 (by kernel_rfl) rfl
theorem J77:Ent prog 64:=Jaa func64 (by kernel_rfl) rfl
theorem Kb3:Ent prog 65:=Jaa func65 (by kernel_rfl) rfl
theorem J2o:Ent prog 66:=Jaa func66 (by kernel_rfl) rfl
theorem Kdu:Ent prog 67:=Jaa func67 (by kernel_rfl) rfl
theorem Kf7:Ent prog 68:=Jaa func68 (by kernel_rfl) rfl
theorem Kfz:Ent prog 69:=Jaa func69 (by kernel_rfl) rfl
theorem Ke1:Ent prog 70:=Jaa func70 (by kernel_rfl) rfl
theorem Kez:Ent prog 71:=Jaa func71 (by kernel_rfl) rfl
theorem Kfo:Ent prog 72:=Jaa func72 (by kernel_rfl) rfl
theorem Jwj:Ent prog 73:=Jaa func73 (by kernel_rfl) rfl
theorem J61:Ent prog 74:=Jaa func74 (by kernel_rfl) rfl
theorem Jq9:Ent prog 75:=Jaa func75 (by kernel_rfl) rfl
theorem Jhs:Ent prog 76:=Jaa func76 (by kernel_rfl) rfl
theorem Kfv:Ent prog 77:=Jaa func77 (by kernel_rfl) rfl
theorem J1r:Ent prog 78:=Jaa func78 (by kernel_rfl) rfl
theorem Jih:Ent prog 79:=Jaa func79 (by kernel_rfl) rfl
theorem Kdp:Ent prog 80:=Jaa func80 (by kernel_rfl) rfl
theorem Kga:Ent prog 81:=Jaa func81 (by kernel_rfl) rfl
theorem Kfp:Ent prog 82:=Jaa func82 (by kernel_rfl) rfl
theorem Kak:Ent prog 83:=Jaa func83 (by kernel_rfl) rfl
theorem Kfx:Ent prog 84:=Jaa func84 (by kernel_rfl) rfl
theorem Kcx:Ent prog 85:=Jaa func85 (by kernel_rfl) rfl
theorem Jw9:Ent prog 86:=Jaa func86 (by kernel_rfl) rfl
theorem Kfb:Ent prog 87:=Jaa func87 (by kernel_rfl) rfl
theorem Ke8:Ent prog 88:=Jaa func88 (by kernel_rfl) rfl
theorem J9x:Ent prog 89:=Jaa func89 (by kernel_rfl) rfl
theorem J4h:Ent prog 90:=Jaa func90 (by kernel_rfl) rfl
theorem Kfn:Ent prog 91:=Jaa func91 (by kernel_rfl) rfl
theorem Kfw:Ent prog 92:=Jaa func92 (by kernel_rfl) rfl
theorem Kbs:Ent prog 93:=Jaa func93 (by kernel_rfl) rfl
theorem Ke2:Ent prog 94:=Jaa func94 (by kernel_rfl) rfl
theorem Kdl:Ent prog 95:=Jaa func95 (by kernel_rfl) rfl
theorem Kgi:Ent prog 96:=Jaa func96 (by kernel_rfl) rfl
theorem Kf3:Ent prog 97:=Jaa func97 (by kernel_rfl) rfl
theorem J9y:Ent prog 98:=Jaa func98 (by kernel_rfl) rfl
theorem J5j:Ent prog 100:=Jaa func100 (by kernel_rfl) rfl
theorem Keo:Ent prog 101:=Jaa func101 (by kernel_rfl) rfl
theorem Jfl:Ent prog 102:=Jaa func102 (by kernel_rfl) rfl
theorem J0z:Ent prog 103:=Jaa func103 (by kernel_rfl) rfl
theorem Jtm:Ent prog 104:=Jaa func104 (by kernel_rfl) rfl
theorem Jnx:Ent prog 105:=Jaa func105 (by kernel_rfl) rfl
theorem Kcu:Ent prog 106:=Jaa func106 (by kernel_rfl) rfl
theorem Jyt:Ent prog 107:=Jaa func107 (by kernel_rfl) rfl
theorem Kae:Ent prog 108:=Jaa func108 (by kernel_rfl) rfl
theorem J6e:Ent prog 109:=Jaa func109 (by kernel_rfl) rfl
theorem Jln:Ent prog 110:=Jaa func110 (by kernel_rfl) rfl
theorem Kd6:Ent prog 111:=Jaa func111 (by kernel_rfl) rfl
theorem Jy5:Ent prog 112:=Jaa func112 (by kernel_rfl) rfl
theorem J6a:Ent prog 113:=Jaa func113 (by kernel_rfl) rfl
theorem J6h:Ent prog 114:=Jaa func114 (by kernel_rfl) rfl
theorem J0i:Ent prog 115:=Jaa func115 (by kernel_rfl) rfl
theorem Kd2:Ent prog 116:=Jaa func116 (by kernel_rfl) rfl
theorem Ka2:Ent prog 117:=Jaa func117 (by kernel_rfl) rfl
theorem Kbm:Ent prog 118:=Jaa func118 (by kernel_rfl) rfl
theorem Kbz:Ent prog 119:=Jaa func119 (by kernel_rfl) rfl
theorem Kaz:Ent prog 120:=Jaa func120 (by kernel_rfl) rfl
theorem Jss:Ent prog 121:=Jaa func121 (by kernel_rfl) rfl
theorem Jl3:Ent prog 122:=Jaa func122 (by kernel_rfl) rfl
theorem Jgx:Ent prog 123:=Jaa func123 (by kernel_rfl) rfl
theorem J53:Ent prog 124:=Jaa func124 (by kernel_rfl) rfl
theorem Ji2:Ent prog 125:=Jaa func125 (by kernel_rfl) rfl
theorem Jz9:Ent prog 126:=Jaa func126 (by kernel_rfl) rfl
theorem J5w:Ent prog 127:=Jaa func127 (by kernel_rfl) rfl
theorem Kd5:Ent prog 128:=Jaa func128 (by kernel_rfl) rfl
theorem Kdf:Ent prog 129:=Jaa func129 (by kernel_rfl) rfl
theorem Kej:Ent prog 130:=Jaa func130 (by kernel_rfl) rfl
theorem Ken:Ent prog 131:=Jaa func131 (by kernel_rfl) rfl
theorem Kbc:Ent prog 132:=Jaa func132 (by kernel_rfl) rfl
theorem Kb1:Ent prog 133:=Jaa func133 (by kernel_rfl) rfl
theorem Kbd:Ent prog 134:=Jaa func134 (by kernel_rfl) rfl
theorem Joa:Ent prog 135:=Jaa func135 (by kernel_rfl) rfl
theorem Jl2:Ent prog 136:=Jaa func136 (by kernel_rfl) rfl
theorem Jkr:Ent prog 137:=Jaa func137 (by kernel_rfl) rfl
theorem Jy8:Ent prog 138:=Jaa func138 (by kernel_rfl) rfl
theorem J5q:Ent prog 139:=Jaa func139 (by kernel_rfl) rfl
theorem Kd4:Ent prog 140:=Jaa func140 (by kernel_rfl) rfl
theorem Kcp:Ent prog 141:=Jaa func141 (by kernel_rfl) rfl
theorem Jh6:Ent prog 142:=Jaa func142 (by kernel_rfl) rfl
theorem Jr7:Ent prog 143:=Jaa func143 (by kernel_rfl) rfl
theorem Kbt:Ent prog 144:=Jaa func144 (by kernel_rfl) rfl
theorem J57:Ent prog 145:=Jaa func145 (by kernel_rfl) rfl
theorem Jix:Ent prog 146:=Jaa func146 (by kernel_rfl) rfl
theorem J5v:Ent prog 147:=Jaa func147 (by kernel_rfl) rfl
theorem Jxq:Ent prog 148:=Jaa func148 (by kernel_rfl) rfl
theorem Jr1:Ent prog 149:=Jaa func149 (by kernel_rfl) rfl
theorem Jn3:Ent prog 150:=Jaa func150 (by kernel_rfl) rfl
theorem Kat:Ent prog 151:=Jaa func151 (by kernel_rfl) rfl
theorem Kcy:Ent prog 152:=Jaa func152 (by kernel_rfl) rfl
theorem Kcc:Ent prog 153:=Jaa func153 (by kernel_rfl) rfl
theorem J6c:Ent prog 154:=Jaa func154 (by kernel_rfl) rfl
theorem J5f:Ent prog 155:=Jaa func155 (by kernel_rfl) rfl
theorem J91:Ent prog 156:=Jaa func156 (by kernel_rfl) rfl
theorem Kcv:Ent prog 157:=Jaa func157 (by kernel_rfl) rfl
theorem Js2:Ent prog 158:=Jaa func158 (by kernel_rfl) rfl
theorem Kbo:Ent prog 159:=Jaa func159 (by kernel_rfl) rfl
theorem Kc1:Ent prog 160:=Jaa func160 (by kernel_rfl) rfl
theorem Kba:Ent prog 161:=Jaa func161 (by kernel_rfl) rfl
theorem J6g:Ent prog 162:=Jaa func162 (by kernel_rfl) rfl
theorem Kea:Ent prog 163:=Jaa func163 (by kernel_rfl) rfl
theorem Kbn:Ent prog 164:=Jaa func164 (by kernel_rfl) rfl
theorem Kb4:Ent prog 165:=Jaa func165 (by kernel_rfl) rfl
theorem J5c:Ent prog 166:=Jaa func166 (by kernel_rfl) rfl
theorem Jte:Ent prog 169:=Jaa func169 (by kernel_rfl) rfl
theorem Jdv:Ent prog 170:=Jaa func170 (by kernel_rfl) rfl
theorem Jv9:Ent prog 171:=Jaa func171 (by kernel_rfl) rfl
theorem Kav:Ent prog 172:=Jaa func172 (by kernel_rfl) rfl
theorem Jsm:Ent prog 173:=Jaa func173 (by kernel_rfl) rfl
theorem Kc2:Ent prog 174:=Jaa func174 (by kernel_rfl) rfl
theorem Kbl:Ent prog 175:=Jaa func175 (by kernel_rfl) rfl
theorem Kc6:Ent prog 176:=Jaa func176 (by kernel_rfl) rfl
theorem Kbj:Ent prog 177:=Jaa func177 (by kernel_rfl) rfl
theorem Kag:Ent prog 178:=Jaa func178 (by kernel_rfl) rfl
theorem Ka1:Ent prog 179:=Jaa func179 (by kernel_rfl) rfl
theorem Jlu:Ent prog 180:=Jaa func180 (by kernel_rfl) rfl
theorem Ka4:Ent prog 181:=Jaa func181 (by kernel_rfl) rfl
theorem Kbq:Ent prog 182:=Jaa func182 (by kernel_rfl) rfl
theorem Kaa:Ent prog 183:=Jaa func183 (by kernel_rfl) rfl
theorem Kdw:Ent prog 184:=Jaa func184 (by kernel_rfl) rfl
theorem Kbp:Ent prog 185:=Jaa func185 (by kernel_rfl) rfl
theorem Kel:Ent prog 186:=Jaa func186 (by kernel_rfl) rfl
theorem Kdt:Ent prog 187:=Jaa func187 (by kernel_rfl) rfl
theorem Kal:Ent prog 188:=Jaa func188 (by kernel_rfl) rfl
theorem Kaf:Ent prog 189:=Jaa func189 (by kernel_rfl) rfl
theorem Kdq:Ent prog 190:=Jaa func190 (by kernel_rfl) rfl
theorem Keb:Ent prog 191:=Jaa func191 (by kernel_rfl) rfl
theorem Kao:Ent prog 192:=Jaa func192 (by kernel_rfl) rfl
theorem Kas:Ent prog 193:=Jaa func193 (by kernel_rfl) rfl
theorem Keg:Ent prog 194:=Jaa func194 (by kernel_rfl) rfl
theorem Kdv:Ent prog 195:=Jaa func195 (by kernel_rfl) rfl
theorem J96:Ent prog 196:=Jaa func196 (by kernel_rfl) rfl
theorem J56:Ent prog 197:=Jaa func197 (by kernel_rfl) rfl
theorem Kcw:Ent prog 198:=Jaa func198 (by kernel_rfl) rfl
theorem Kdg:Ent prog 199:=Jaa func199 (by kernel_rfl) rfl
theorem Kbr:Ent prog 200:=Jaa func200 (by kernel_rfl) rfl
theorem Kbk:Ent prog 201:=Jaa func201 (by kernel_rfl) rfl
theorem Kdi:Ent prog 202:=Jaa func202 (by kernel_rfl) rfl
theorem Kco:Ent prog 203:=Jaa func203 (by kernel_rfl) rfl
theorem Jn1:Ent prog 204:=Jaa func204 (by kernel_rfl) rfl
theorem Joe:Ent prog 205:=Jaa func205 (by kernel_rfl) rfl
theorem Jxf:Ent prog 206:=Jaa func206 (by kernel_rfl) rfl
theorem Kdm:Ent prog 207:=Jaa func207 (by kernel_rfl) rfl
theorem J5i:Ent prog 208:=Jaa func208 (by kernel_rfl) rfl
theorem Kb6:Ent prog 209:=Jaa func209 (by kernel_rfl) rfl
theorem Jsp:Ent prog 210:=Jaa func210 (by kernel_rfl) rfl
theorem J9w:Ent prog 211:=Jaa func211 (by kernel_rfl) rfl
theorem Kef:Ent prog 212:=Jaa func212 (by kernel_rfl) rfl
theorem Kc9:Ent prog 213:=Jaa func213 (by kernel_rfl) rfl
theorem Kbf:Ent prog 214:=Jaa func214 (by kernel_rfl) rfl
theorem Kb5:Ent prog 215:=Jaa func215 (by kernel_rfl) rfl
theorem Kd7:Ent prog 216:=Jaa func216 (by kernel_rfl) rfl
theorem Jzc:Ent prog 217:=Jaa func217 (by kernel_rfl) rfl
theorem J50:Ent prog 218:=Jaa func218 (by kernel_rfl) rfl
theorem Kcz:Ent prog 219:=Jaa func219 (by kernel_rfl) rfl
theorem Kd9:Ent prog 220:=Jaa func220 (by kernel_rfl) rfl
theorem Kdd:Ent prog 221:=Jaa func221 (by kernel_rfl) rfl
theorem Kc5:Ent prog 222:=Jaa func222 (by kernel_rfl) rfl
theorem Kdh:Ent prog 223:=Jaa func223 (by kernel_rfl) rfl
theorem Kan:Ent prog 224:=Jaa func224 (by kernel_rfl) rfl
theorem Kcb:Ent prog 225:=Jaa func225 (by kernel_rfl) rfl
theorem Kc4:Ent prog 226:=Jaa func226 (by kernel_rfl) rfl
theorem Kam:Ent prog 227:=Jaa func227 (by kernel_rfl) rfl
theorem Kac:Ent prog 228:=Jaa func228 (by kernel_rfl) rfl
theorem Kda:Ent prog 229:=Jaa func229 (by kernel_rfl) rfl
theorem Kaq:Ent prog 230:=Jaa func230 (by kernel_rfl) rfl
theorem Kc0:Ent prog 231:=Jaa func231 (by kernel_rfl) rfl
theorem J94:Ent prog 232:=Jaa func232 (by kernel_rfl) rfl
theorem Kdo:Ent prog 233:=Jaa func233 (by kernel_rfl) rfl
theorem Kd3:Ent prog 235:=Jaa func235 (by kernel_rfl) rfl
theorem Kb7:Ent prog 236:=Jaa func236 (by kernel_rfl) rfl
theorem Kcj:Ent prog 237:=Jaa func237 (by kernel_rfl) rfl
theorem Kcq:Ent prog 238:=Jaa func238 (by kernel_rfl) rfl
theorem Kap:Ent prog 239:=Jaa func239 (by kernel_rfl) rfl
theorem Kee:Ent prog 240:=Jaa func240 (by kernel_rfl) rfl
theorem Kem:Ent prog 241:=Jaa func241 (by kernel_rfl) rfl
theorem J97:Ent prog 242:=Jaa func242 (by kernel_rfl) rfl
theorem Kce:Ent prog 243:=Jaa func243 (by kernel_rfl) rfl
theorem Kdy:Ent prog 244:=Jaa func244 (by kernel_rfl) rfl
theorem Ka7:Ent prog 245:=Jaa func245 (by kernel_rfl) rfl
theorem Kbi:Ent prog 246:=Jaa func246 (by kernel_rfl) rfl
theorem Kab:Ent prog 249:=Jaa func249 (by kernel_rfl) rfl
theorem Ka0:Ent prog 250:=Jaa func250 (by kernel_rfl) rfl
theorem Ka5:Ent prog 251:=Jaa func251 (by kernel_rfl) rfl
instance:Fx prog where
 ft:=(.n (.n (.n (.n (.n (.n .o 7 [0,1,2,3] .o) 8 [0,1,2,3] (.n .o 13 [0,1] .o)) 14 [0,1] (.n (.n .o 18 [0] .o) 19 [0] (.n .o 30 [0,1,2,3,4,5,6,7] .o))) 31 [0,1,2,3,4,5,6,7] (.n (.n (.n .o 35 [0,8,9,10,11] .o) 36 [0,8,9,10,11] (.n .o 48 [0,1,2] .o)) 49 [0,1,2] (.n (.n .o 50 [0,1,2,5,6] .o) 51 [0,1,2,5,6] (.n .o 53 [0,1] .o)))) 54 [0,1] (.n (.n (.n (.n .o 68 [0,1] .o) 69 [0,1] (.n .o 73 [0,1] .o)) 74 [0,1] (.n (.n .o 75 [0,1,2,3,4,5,6] .o) 76 [0,1,2,3,4,5,6] (.n .o 79 [0,1,2,3,4] .o))) 80 [0,1,2,3,4] (.n (.n (.n .o 87 [0,2,3] .o) 88 [0,2,3] (.n .o 94 [0,1,2] .o)) 95 [0,1,2] (.n (.n .o 97 [0,3] .o) 98 [0,3] (.n .o 99 [0,12,16,17,18,19,20] .o))))) 100 [0,12,16,17,18,19,20] (.n (.n (.n (.n (.n .o 113 [0,3] .o) 114 [0,3] (.n .o 122 [0,1,2,3,4,5,6,7] .o)) 123 [0,1,2,3,4,5,6,7] (.n (.n .o 134 [0,1] .o) 137 [0,1,2] (.n .o 138 [0,1,2] .o))) 139 [0,1,2] (.n (.n (.n .o 140 [0,1,2] .o) 141 [0,1] (.n .o 142 [0,1] .o)) 143 [0,1] (.n (.n .o 144 [0,1] .o) 151 [0,1,2] (.n .o 152 [0,1,2] .o)))) 158 [0,1,2,3] (.n (.n (.n (.n .o 159 [0,1,2,3] .o) 181 [0,2] (.n .o 182 [0,2] .o)) 189 [0,12,16] (.n (.n .o 190 [0,12,16] .o) 195 [0,12,16,17] (.n .o 196 [0,12,16,17] .o))) 245 [0,8] (.n (.n (.n .o 246 [0,8] .o) 266 [0,1] (.n .o 267 [0,1] .o)) 319 [0,1,2,3] (.n (.n .o 320 [0,1,2,3] .o) 330 [0,1,2,3,4,5,6,7,8,9,10] (.n .o 331 [0,1,2,3,4,5,6,7,8,9,10] .o))))))
 kt:=(.n (.n (.n (.n (.n (.n (.n (.n (.n .o 1 (false,1) .o) 2 (false,1) .o) 3 (false,1) (.n .o 4 (false,1) .o)) 5 (false,1) (.n (.n (.n .o 6 (false,1) .o) 7 (true,4) .o) 8 (true,4) (.n .o 9 (false,1) .o))) 10 (false,1) (.n (.n (.n (.n .o 11 (false,1) .o) 12 (false,1) .o) 13 (true,2) (.n .o 14 (true,2) .o)) 15 (false,1) (.n (.n (.n .o 16 (false,1) .o) 17 (false,1) .o) 18 (true,1) (.n .o 19 (true,1) .o)))) 21 (false,1) (.n (.n (.n (.n (.n .o 22 (false,1) .o) 23 (false,1) .o) 24 (false,1) (.n .o 25 (false,1) .o)) 26 (false,1) (.n (.n (.n .o 27 (false,1) .o) 28 (false,1) .o) 29 (false,1) (.n .o 30 (true,8) .o))) 31 (true,8) (.n (.n (.n (.n .o 32 (false,1) .o) 33 (false,1) .o) 34 (false,1) (.n .o 35 (true,12) .o)) 36 (true,12) (.n (.n .o 37 (false,1) .o) 38 (false,1) (.n .o 39 (false,1) .o))))) 40 (false,1) (.n (.n (.n (.n (.n (.n .o 41 (false,1) .o) 42 (false,1) .o) 43 (false,1) (.n .o 45 (false,1) .o)) 47 (false,1) (.n (.n (.n .o 48 (true,3) .o) 49 (true,3) .o) 50 (true,7) (.n .o 51 (true,7) .o))) 52 (false,1) (.n (.n (.n (.n .o 53 (true,4) .o) 54 (true,4) .o) 56 (false,1) (.n .o 58 (false,1) .o)) 59 (false,1) (.n (.n .o 60 (false,1) .o) 61 (false,1) (.n .o 63 (false,1) .o)))) 64 (false,1) (.n (.n (.n (.n (.n .o 65 (false,1) .o) 66 (false,1) .o) 67 (false,1) (.n .o 68 (true,2) .o)) 69 (true,2) (.n (.n (.n .o 71 (false,1) .o) 72 (false,1) .o) 73 (true,2) (.n .o 74 (true,2) .o))) 75 (true,7) (.n (.n (.n (.n .o 76 (true,7) .o) 77 (false,1) .o) 78 (false,1) (.n .o 79 (true,11) .o)) 80 (true,11) (.n (.n .o 81 (false,1) .o) 82 (false,1) (.n .o 84 (false,1) .o)))))) 85 (false,1) (.n (.n (.n (.n (.n (.n (.n .o 86 (false,1) .o) 87 (true,4) .o) 88 (true,4) (.n .o 89 (false,1) .o)) 90 (false,1) (.n (.n (.n .o 92 (false,1) .o) 93 (false,1) .o) 94 (true,3) (.n .o 95 (true,3) .o))) 96 (false,1) (.n (.n (.n (.n .o 97 (true,4) .o) 98 (true,4) .o) 99 (true,21) (.n .o 100 (true,21) .o)) 101 (false,1) (.n (.n .o 102 (false,1) .o) 103 (false,1) (.n .o 104 (false,1) .o)))) 105 (false,1) (.n (.n (.n (.n (.n .o 106 (false,1) .o) 107 (false,1) .o) 108 (false,1) (.n .o 109 (false,1) .o)) 110 (false,1) (.n (.n (.n .o 111 (false,1) .o) 112 (false,1) .o) 113 (true,4) (.n .o 114 (true,4) .o))) 115 (false,1) (.n (.n (.n (.n .o 116 (false,1) .o) 117 (false,1) .o) 118 (false,1) (.n .o 119 (false,1) .o)) 120 (false,1) (.n (.n .o 121 (false,1) .o) 122 (true,8) (.n .o 123 (true,8) .o))))) 124 (false,1) (.n (.n (.n (.n (.n (.n .o 125 (false,1) .o) 127 (false,1) .o) 128 (false,1) (.n .o 129 (false,1) .o)) 130 (false,1) (.n (.n (.n .o 131 (false,1) .o) 133 (false,1) .o) 134 (true,2) (.n .o 135 (false,1) .o))) 136 (false,1) (.n (.n (.n (.n .o 137 (true,3) .o) 138 (true,3) .o) 139 (true,3) (.n .o 140 (true,3) .o)) 141 (true,2) (.n (.n .o 142 (true,2) .o) 143 (true,3) (.n .o 144 (true,3) .o)))) 145 (false,1) (.n (.n (.n (.n (.n .o 146 (false,1) .o) 147 (false,1) .o) 148 (false,1) (.n .o 149 (false,1) .o)) 150 (false,1) (.n (.n (.n .o 151 (true,3) .o) 152 (true,3) .o) 153 (false,1) (.n .o 155 (false,1) .o))) 156 (false,1) (.n (.n (.n (.n .o 157 (false,1) .o) 158 (true,4) .o) 159 (true,4) (.n .o 160 (false,1) .o)) 161 (false,1) (.n (.n .o 162 (false,1) .o) 163 (false,1) (.n .o 164 (false,1) .o))))))) 165 (false,1) (.n (.n (.n (.n (.n (.n (.n (.n .o 166 (false,1) .o) 167 (false,1) .o) 169 (false,1) (.n .o 170 (false,1) .o)) 171 (false,1) (.n (.n (.n .o 172 (false,1) .o) 173 (false,1) .o) 175 (false,1) (.n .o 176 (false,1) .o))) 177 (false,1) (.n (.n (.n (.n .o 178 (false,1) .o) 179 (false,1) .o) 180 (false,1) (.n .o 181 (true,3) .o)) 182 (true,3) (.n (.n (.n .o 183 (false,1) .o) 184 (false,1) .o) 185 (false,1) (.n .o 187 (false,1) .o)))) 188 (false,1) (.n (.n (.n (.n (.n .o 189 (true,17) .o) 190 (true,17) .o) 191 (false,1) (.n .o 193 (false,1) .o)) 194 (false,1) (.n (.n (.n .o 195 (true,18) .o) 196 (true,18) .o) 197 (false,1) (.n .o 198 (false,1) .o))) 199 (false,1) (.n (.n (.n (.n .o 200 (false,1) .o) 201 (false,1) .o) 203 (false,1) (.n .o 204 (false,1) .o)) 205 (false,1) (.n (.n .o 206 (false,1) .o) 207 (false,1) (.n .o 208 (false,1) .o))))) 209 (false,1) (.n (.n (.n (.n (.n (.n .o 210 (false,1) .o) 211 (false,1) .o) 212 (false,1) (.n .o 213 (false,1) .o)) 214 (false,1) (.n (.n (.n .o 215 (false,1) .o) 216 (false,1) .o) 217 (false,1) (.n .o 219 (false,1) .o))) 220 (false,1) (.n (.n (.n (.n .o 221 (false,1) .o) 222 (false,1) .o) 223 (false,1) (.n .o 224 (false,1) .o)) 225 (false,1) (.n (.n .o 226 (false,1) .o) 227 (false,1) (.n .o 228 (false,1) .o)))) 229 (false,1) (.n (.n (.n (.n (.n .o 230 (false,1) .o) 231 (false,1) .o) 232 (false,1) (.n .o 233 (false,1) .o)) 234 (false,1) (.n (.n (.n .o 235 (false,1) .o) 236 (false,1) .o) 237 (false,1) (.n .o 238 (false,1) .o))) 239 (false,1) (.n (.n (.n (.n .o 241 (false,1) .o) 242 (false,1) .o) 244 (false,1) (.n .o 245 (true,11) .o)) 246 (true,11) (.n (.n .o 247 (false,1) .o) 248 (false,1) (.n .o 249 (false,1) .o)))))) 250 (false,1) (.n (.n (.n (.n (.n (.n (.n .o 251 (false,1) .o) 252 (false,1) .o) 253 (false,1) (.n .o 254 (false,1) .o)) 255 (false,1) (.n (.n (.n .o 256 (false,1) .o) 257 (false,1) .o) 258 (false,1) (.n .o 259 (false,1) .o))) 260 (false,1) (.n (.n (.n (.n .o 261 (false,1) .o) 262 (false,1) .o) 263 (false,1) (.n .o 264 (false,1) .o)) 265 (false,1) (.n (.n .o 266 (true,2) .o) 267 (true,2) (.n .o 271 (false,1) .o)))) 272 (false,1) (.n (.n (.n (.n (.n .o 273 (false,1) .o) 274 (false,1) .o) 275 (false,1) (.n .o 276 (false,1) .o)) 277 (false,1) (.n (.n (.n .o 278 (false,1) .o) 279 (false,1) .o) 280 (false,1) (.n .o 281 (false,1) .o))) 282 (false,1) (.n (.n (.n (.n .o 283 (false,1) .o) 284 (false,1) .o) 285 (false,1) (.n .o 286 (false,1) .o)) 288 (false,1) (.n (.n .o 289 (false,1) .o) 290 (false,1) (.n .o 291 (false,1) .o))))) 292 (false,1) (.n (.n (.n (.n (.n (.n .o 293 (false,1) .o) 294 (false,1) .o) 295 (false,1) (.n .o 296 (false,1) .o)) 297 (false,1) (.n (.n (.n .o 298 (false,1) .o) 299 (false,1) .o) 300 (true,10) (.n .o 302 (false,1) .o))) 303 (false,1) (.n (.n (.n (.n .o 304 (false,1) .o) 305 (false,1) .o) 306 (false,1) (.n .o 307 (true,24) .o)) 308 (false,1) (.n (.n .o 309 (false,1) .o) 311 (false,1) (.n .o 312 (false,1) .o)))) 313 (true,20) (.n (.n (.n (.n (.n .o 314 (true,65) .o) 315 (false,1) .o) 316 (false,1) (.n .o 317 (true,32) .o)) 318 (true,64) (.n (.n (.n .o 319 (true,4) .o) 320 (true,4) .o) 321 (true,0) (.n .o 322 (true,0) .o))) 323 (true,0) (.n (.n (.n (.n .o 324 (false,1) .o) 325 (false,1) .o) 326 (false,1) (.n .o 327 (false,1) .o)) 328 (false,1) (.n (.n .o 329 (false,1) .o) 330 (true,11) (.n .o 331 (true,11) .o))))))))
 st:=(.n (.n (.n (.n (.n .o 22 (9,1,16) .o) 23 (159,4,40) .o) 24 (138,3,48) (.n (.n .o 25 (140,3,40) .o) 26 (123,8,152) .o)) 27 (144,3,40) (.n (.n (.n .o 28 (152,3,24) .o) 29 (152,3,24) .o) 32 (74,2,16) (.n (.n .o 33 (37,1,24) .o) 34 (80,11,128) .o))) 37 (3,1,8) (.n (.n (.n (.n .o 38 (51,7,56) .o) 42 (49,3,24) .o) 52 (54,4,32) (.n (.n .o 66 (98,4,96) .o) 67 (112,1,24) .o)) 77 (76,7,72) (.n (.n (.n .o 96 (4,1,1) .o) 112 (114,4,32) .o) 121 (142,2,16) (.n .o 265 (5,1,1) .o))))
 fk:=by kernel_rfl
 kk:=by kernel_rfl
 sk:=by kernel_rfl
end Go.Proofs.YtmoojmgihdgceaaGreatDoor
