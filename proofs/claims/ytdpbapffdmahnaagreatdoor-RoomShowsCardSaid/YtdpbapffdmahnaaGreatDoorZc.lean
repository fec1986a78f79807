/- Merged texts of this proof (walks and plain laws), printed by a program of the prover. -/
import Derived.Test.YtdpbapffdmahnaaGreatDoorZb
import Derived.Test.YtdpbapffdmahnaaGreatDoorProg
import Derived.KernelRfl
namespace Go.Proofs.YtdpbapffdmahnaaGreatDoor
open Go.Proofs
theorem mixed:Tryz.prog.follows .mixedOrders=true:=by kernel_rfl
theorem tk3:tk Tryz.prog 3=some (false,1):=by kernel_rfl
theorem tk9:tk Tryz.prog 9=some (false,1):=by kernel_rfl
theorem tk22:tk Tryz.prog 22=some (false,1):=by kernel_rfl
theorem tk23:tk Tryz.prog 23=some (false,1):=by kernel_rfl
theorem tk24:tk Tryz.prog 24=some (false,1):=by kernel_rfl
theorem tk29:tk Tryz.prog 29=some (false,1):=by kernel_rfl
theorem tk31:tk Tryz.prog 31=some (true,8):=by kernel_rfl
theorem tk32:tk Tryz.prog 32=some (false,1):=by kernel_rfl
theorem tk34:tk Tryz.prog 34=some (true,3):=by kernel_rfl
theorem tk62:tk Tryz.prog 62=some (true,8):=by kernel_rfl
theorem tk72:tk Tryz.prog 72=some (true,3):=by kernel_rfl
theorem tk73:tk Tryz.prog 73=some (false,1):=by kernel_rfl
theorem zv3:zv Tryz.prog 3=some [.int .i64 0]:=by kernel_rfl
theorem zv9:zv Tryz.prog 9=some [.string ⟨#[]⟩]:=by kernel_rfl
theorem zv31:zv Tryz.prog 31=some [.slice none 0 0,.slice none 0 0,.slice none 0 0,.slice none 0 0,.slice none 0 0,.slice none 0 0,.int .i64 0,.slice none 0 0]:=by kernel_rfl
theorem zv34:zv Tryz.prog 34=some [.slice none 0 0,.slice none 0 0,.slice none 0 0]:=by kernel_rfl
theorem zv55:zv Tryz.prog 55=some [.string ⟨#[]⟩,.int .i64 0,.int .i64 0,.int .i64 0]:=by kernel_rfl
theorem zv57:zv Tryz.prog 57=some [.string ⟨#[]⟩,.int .i64 0,.slice none 0 0]:=by kernel_rfl
theorem zv59:zv Tryz.prog 59=some [.int .i64 0,.int .i64 0,.slice none 0 0]:=by kernel_rfl
theorem zv62:zv Tryz.prog 62=some [.string ⟨#[]⟩,.int .i64 0,.int .i64 0,.slice none 0 0,.slice none 0 0,.slice none 0 0,.slice none 0 0,.slice none 0 0]:=by kernel_rfl
theorem zv64:zv Tryz.prog 64=some [.int .i64 0,.int .i64 0]:=by kernel_rfl
theorem zv66:zv Tryz.prog 66=some [.slice none 0 0,.int .i64 0,.int .i64 0]:=by kernel_rfl
theorem zv72:zv Tryz.prog 72=some [.int .i64 0,.int .i64 0,.int .i64 0]:=by kernel_rfl
theorem zv73:zv Tryz.prog 73=some [.slice none 0 0]:=by kernel_rfl
theorem Jh9:zv Tryz.prog 101=some [.int .i64 0,.int .i64 0,.bool false]:=by kernel_rfl
theorem Jqe:zv Tryz.prog 103=some [.pointer none]:=by kernel_rfl
theorem Jph:zv Tryz.prog 133=some [.nilFunc]:=by kernel_rfl
theorem Jp0:zv Tryz.prog 146=some [.slice none 0 0,.slice none 0 0,.slice none 0 0,.slice none 0 0,.slice none 0 0,.slice none 0 0,.int .i64 0,.slice none 0 0,.slice none 0 0,.slice none 0 0,.slice none 0 0]:=by kernel_rfl
theorem sl22:sl Tryz.prog 22=some (9,1,16):=by kernel_rfl
theorem sl23:sl Tryz.prog 23=some (55,4,40):=by kernel_rfl
theorem sl24:sl Tryz.prog 24=some (57,3,48):=by kernel_rfl
theorem sl25:sl Tryz.prog 25=some (59,3,40):=by kernel_rfl
theorem sl26:sl Tryz.prog 26=some (62,8,152):=by kernel_rfl
theorem sl27:sl Tryz.prog 27=some (66,3,40):=by kernel_rfl
theorem sl29:sl Tryz.prog 29=some (101,3,24):=by kernel_rfl
theorem sl32:sl Tryz.prog 32=some (3,1,8):=by kernel_rfl
theorem sl60:sl Tryz.prog 60=some (64,2,16):=by kernel_rfl
theorem sl73:sl Tryz.prog 73=some (72,3,24):=by kernel_rfl
theorem Jos:plc Tryz.prog 31=some [(0,1),(1,1),(2,1),(3,1),(4,1),(5,1),(6,1),(7,1)]:=by kernel_rfl
theorem Jf5:plc Tryz.prog 34=some [(0,1),(1,1),(2,1)]:=by kernel_rfl
theorem Jom:plc Tryz.prog 55=some [(0,1),(1,1),(2,1),(3,1)]:=by kernel_rfl
theorem Jpr:plc Tryz.prog 57=some [(0,1),(1,1),(2,1)]:=by kernel_rfl
theorem Jp7:plc Tryz.prog 59=some [(0,1),(1,1),(2,1)]:=by kernel_rfl
theorem Jow:plc Tryz.prog 62=some [(0,1),(1,1),(2,1),(3,1),(4,1),(5,1),(6,1),(7,1)]:=by kernel_rfl
theorem Jor:plc Tryz.prog 64=some [(0,1),(1,1)]:=by kernel_rfl
theorem Jo2:plc Tryz.prog 72=some [(0,1),(1,1),(2,1)]:=by kernel_rfl
theorem Jme:plc Tryz.prog 101=some [(0,1),(1,1),(2,1)]:=by kernel_rfl
theorem Jof:plc Tryz.prog 146=some [(0,8),(8,3)]:=by kernel_rfl
theorem ent6:Ent Tryz.prog 6:=Jac Tryz.func6 (by kernel_rfl) rfl
theorem ent7:Ent Tryz.prog 7:=Jac Tryz.func7 (by kernel_rfl) rfl
theorem ent8:Ent Tryz.prog 8:=Jac Tryz.func8 (by kernel_rfl) rfl
theorem ent9:Ent Tryz.prog 9:=Jac Tryz.func9 (by kernel_rfl) rfl
theorem Jp3:Ent Tryz.prog 10:=Jac Tryz.func10 (by kernel_rfl) rfl
theorem Jpw:Ent Tryz.prog 11:=Jac Tryz.func11 (by kernel_rfl) rfl
theorem Jqh:Ent Tryz.prog 12:=Jac Tryz.func12 (by kernel_rfl) rfl
theorem Jp6:Ent Tryz.prog 19:=Jac Tryz.func19 (by kernel_rfl) rfl
theorem Jp8:Ent Tryz.prog 20:=Jac Tryz.func20 (by kernel_rfl) rfl
theorem Jp1:Ent Tryz.prog 21:=Jac Tryz.func21 (by kernel_rfl) rfl
theorem Jps:Ent Tryz.prog 22:=Jac Tryz.func22 (by kernel_rfl) rfl
theorem Jnk:Ent Tryz.prog 23:=Jac Tryz.func23 (by kernel_rfl) rfl
theorem Jne:Ent Tryz.prog 24:=Jac Tryz.func24 (by kernel_rfl) rfl
theorem Jp5:Ent Tryz.prog 25:=Jac Tryz.func25 (by kernel_rfl) rfl
theorem Jkg:Ent Tryz.prog 26:=Jac Tryz.func26 (by kernel_rfl) rfl
theorem Jm0:Ent Tryz.prog 27:=Jac Tryz.func27 (by kernel_rfl) rfl
theorem Jpu:Ent Tryz.prog 28:=Jac Tryz.func28 (by kernel_rfl) rfl
theorem Jm7:Ent Tryz.prog 29:=Jac Tryz.func29 (by kernel_rfl) rfl
theorem Jo7:Ent Tryz.prog 45:=Jac Tryz.func45 (by kernel_rfl) rfl
theorem Jlz:Ent Tryz.prog 46:=Jac Tryz.func46 (by kernel_rfl) rfl
theorem Jk7:Ent Tryz.prog 47:=Jac Tryz.func47 (by kernel_rfl) rfl
theorem Jnt:Ent Tryz.prog 48:=Jac Tryz.func48 (by kernel_rfl) rfl
theorem Jpi:Ent Tryz.prog 49:=Jac Tryz.func49 (by kernel_rfl) rfl
theorem Jqc:Ent Tryz.prog 50:=Jac Tryz.func50 (by kernel_rfl) rfl
theorem Jlh:Ent Tryz.prog 51:=Jac Tryz.func51 (by kernel_rfl) rfl
theorem Jcg:Ent Tryz.prog 52:=Jac Tryz.func52 (by kernel_rfl) rfl
theorem Jp9:Ent Tryz.prog 57:=Jac Tryz.func57 (by kernel_rfl) rfl
theorem Jlc:Ent Tryz.prog 58:=Jac Tryz.func58 (by kernel_rfl) rfl
theorem Jf0:Ent Tryz.prog 59:=Jac Tryz.func59 (by kernel_rfl) rfl
theorem Je6:Ent Tryz.prog 60:=Jac Tryz.func60 (by kernel_rfl) rfl
theorem Jpq:Ent Tryz.prog 67:=Jac Tryz.func67 (by kernel_rfl) rfl
theorem Jlg:Ent Tryz.prog 78:=Jac Tryz.func78 (by kernel_rfl) rfl
theorem Jpt:Ent Tryz.prog 79:=Jac Tryz.func79 (by kernel_rfl) rfl
theorem Jpj:Ent Tryz.prog 80:=Jac Tryz.func80 (by kernel_rfl) rfl
theorem Jpp:Ent Tryz.prog 81:=Jac Tryz.func81 (by kernel_rfl) rfl
theorem Jqd:Ent Tryz.prog 82:=Jac Tryz.func82 (by kernel_rfl) rfl
theorem Jqb:Ent Tryz.prog 83:=Jac Tryz.func83 (by kernel_rfl) rfl
theorem Jp2:Ent Tryz.prog 84:=Jac Tryz.func84 (by kernel_rfl) rfl
theorem Ji2:Ent Tryz.prog 85:=Jac Tryz.func85 (by kernel_rfl) rfl
theorem Jpy:Ent Tryz.prog 86:=Jac Tryz.func86 (by kernel_rfl) rfl
theorem Jnh:Ent Tryz.prog 87:=Jac Tryz.func87 (by kernel_rfl) rfl
theorem Jpx:Ent Tryz.prog 88:=Jac Tryz.func88 (by kernel_rfl) rfl
theorem Jje:Ent Tryz.prog 89:=Jac Tryz.func89 (by kernel_rfl) rfl
theorem Jkh:Ent Tryz.prog 90:=Jac Tryz.func90 (by kernel_rfl) rfl
theorem Jna:Ent Tryz.prog 91:=Jac Tryz.func91 (by kernel_rfl) rfl
theorem Jm4:Ent Tryz.prog 92:=Jac Tryz.func92 (by kernel_rfl) rfl
theorem Jpk:Ent Tryz.prog 93:=Jac Tryz.func93 (by kernel_rfl) rfl
theorem Jjy:Ent Tryz.prog 94:=Jac Tryz.func94 (by kernel_rfl) rfl
theorem Jn0:Ent Tryz.prog 95:=Jac Tryz.func95 (by kernel_rfl) rfl
theorem Jp4:Ent Tryz.prog 96:=Jac Tryz.func96 (by kernel_rfl) rfl
theorem Jg9:Ent Tryz.prog 100:=Jac Tryz.func100 (by kernel_rfl) rfl
theorem Jjm:Ent Tryz.prog 101:=Jac Tryz.func101 (by kernel_rfl) rfl
theorem Jfw:Ent Tryz.prog 102:=Jac Tryz.func102 (by kernel_rfl) rfl
theorem Jo0:Ent Tryz.prog 103:=Jac Tryz.func103 (by kernel_rfl) rfl
theorem Jg7:Ent Tryz.prog 113:=Jac Tryz.func113 (by kernel_rfl) rfl
theorem Jpf:Ent Tryz.prog 114:=Jac Tryz.func114 (by kernel_rfl) rfl
theorem Jnz:Ent Tryz.prog 115:=Jac Tryz.func115 (by kernel_rfl) rfl
theorem Jn1:Ent Tryz.prog 116:=Jac Tryz.func116 (by kernel_rfl) rfl
theorem Jn4:Ent Tryz.prog 117:=Jac Tryz.func117 (by kernel_rfl) rfl
theorem Jmb:Ent Tryz.prog 118:=Jac Tryz.func118 (by kernel_rfl) rfl
theorem Jol:Ent Tryz.prog 119:=Jac Tryz.func119 (by kernel_rfl) rfl
theorem Joz:Ent Tryz.prog 120:=Jac Tryz.func120 (by kernel_rfl) rfl
theorem Jkj:Ent Tryz.prog 121:=Jac Tryz.func121 (by kernel_rfl) rfl
theorem Jmm:Ent Tryz.prog 122:=Jac Tryz.func122 (by kernel_rfl) rfl
theorem Jo5:Ent Tryz.prog 123:=Jac Tryz.func123 (by kernel_rfl) rfl
theorem Joh:Ent Tryz.prog 124:=Jac Tryz.func124 (by kernel_rfl) rfl
theorem Jnv:Ent Tryz.prog 125:=Jac Tryz.func125 (by kernel_rfl) rfl
theorem Job:Ent Tryz.prog 126:=Jac Tryz.func126 (by kernel_rfl) rfl
theorem Joc:Ent Tryz.prog 127:=Jac Tryz.func127 (by kernel_rfl) rfl
theorem Jn8:Ent Tryz.prog 128:=Jac Tryz.func128 (by kernel_rfl) rfl
theorem Jov:Ent Tryz.prog 129:=Jac Tryz.func129 (by kernel_rfl) rfl
theorem Jok:Ent Tryz.prog 130:=Jac Tryz.func130 (by kernel_rfl) rfl
theorem Jn9:Ent Tryz.prog 137:=Jac Tryz.func137 (by kernel_rfl) rfl
theorem Jju:Ent Tryz.prog 138:=Jac Tryz.func138 (by kernel_rfl) rfl
theorem Jmc:Ent Tryz.prog 139:=Jac Tryz.func139 (by kernel_rfl) rfl
theorem Jnx:Ent Tryz.prog 157:=Jac Tryz.func157 (by kernel_rfl) rfl
theorem Joa:Ent Tryz.prog 158:=Jac Tryz.func158 (by kernel_rfl) rfl
theorem Jpg:Ent Tryz.prog 159:=Jac Tryz.func159 (by kernel_rfl) rfl
theorem Jo8:Ent Tryz.prog 160:=Jac Tryz.func160 (by kernel_rfl) rfl
theorem Jo4:Ent Tryz.prog 161:=Jac Tryz.func161 (by kernel_rfl) rfl
theorem Jn5:Ent Tryz.prog 162:=Jac Tryz.func162 (by kernel_rfl) rfl
theorem Jn2:Ent Tryz.prog 163:=Jac Tryz.func163 (by kernel_rfl) rfl
theorem Jpb:Ent Tryz.prog 164:=Jac Tryz.func164 (by kernel_rfl) rfl
theorem Jop:Ent Tryz.prog 165:=Jac Tryz.func165 (by kernel_rfl) rfl
theorem Jny:Ent Tryz.prog 166:=Jac Tryz.func166 (by kernel_rfl) rfl
theorem Jod:Ent Tryz.prog 167:=Jac Tryz.func167 (by kernel_rfl) rfl
theorem Jo1:Ent Tryz.prog 173:=Jac Tryz.func173 (by kernel_rfl) rfl
theorem Jo9:Ent Tryz.prog 189:=Jac Tryz.func189 (by kernel_rfl) rfl
theorem Jo6:Ent Tryz.prog 190:=Jac Tryz.func190 (by kernel_rfl) rfl
instance:Fx Tryz.prog where
 ft:=(.n (.n (.n (.n (.n (.n .o 7 [0,1,2,3] .o) 8 [0,1,2,3] .o) 13 [0,1] (.n (.n .o 14 [0,1] .o) 18 [0] .o)) 19 [0] (.n (.n (.n .o 30 [0,1,2,3,4,5,6,7] .o) 31 [0,1,2,3,4,5,6,7] .o) 33 [0,1,2] (.n (.n .o 34 [0,1,2] .o) 44 [0,1] .o))) 45 [0,1] (.n (.n (.n (.n .o 46 [0,1,2,3,4,5,6] .o) 47 [0,1,2,3,4,5,6] .o) 54 [0,1,2,3] (.n (.n .o 55 [0,1,2,3] .o) 56 [0,1,2] .o)) 57 [0,1,2] (.n (.n (.n .o 58 [0,1,2] .o) 59 [0,1,2] .o) 61 [0,1,2,3,4,5,6,7] (.n .o 62 [0,1,2,3,4,5,6,7] .o)))) 63 [0,1] (.n (.n (.n (.n (.n .o 64 [0,1] .o) 65 [0,1] .o) 66 [0,1] (.n (.n .o 71 [0,1,2] .o) 72 [0,1,2] .o)) 89 [0,1] (.n (.n (.n .o 100 [0,1,2] .o) 101 [0,1,2] .o) 114 [0,1] (.n (.n .o 115 [0,1] .o) 145 [0,8] .o))) 146 [0,8] (.n (.n (.n (.n .o 236 [0,1,2] .o) 237 [0,1,2] .o) 242 [0,1] (.n (.n .o 243 [0,1] .o) 250 [0] .o)) 251 [0] (.n (.n (.n .o 252 [0,1,2,3] .o) 253 [0,1,2,3] .o) 263 [0,1,2,3,4,5,6,7,8,9,10] (.n .o 264 [0,1,2,3,4,5,6,7,8,9,10] .o)))))
 kt:=(.n (.n (.n (.n (.n (.n (.n (.n .o 1 (false,1) .o) 2 (false,1) (.n .o 3 (false,1) .o)) 4 (false,1) (.n (.n .o 5 (false,1) .o) 6 (false,1) (.n .o 7 (true,4) .o))) 8 (true,4) (.n (.n (.n .o 9 (false,1) .o) 10 (false,1) (.n .o 11 (false,1) .o)) 12 (false,1) (.n (.n .o 13 (true,2) .o) 14 (true,2) (.n .o 15 (false,1) .o)))) 16 (false,1) (.n (.n (.n (.n .o 17 (false,1) .o) 18 (true,1) (.n .o 19 (true,1) .o)) 21 (false,1) (.n (.n .o 22 (false,1) .o) 23 (false,1) (.n .o 24 (false,1) .o))) 25 (false,1) (.n (.n (.n .o 26 (false,1) .o) 27 (false,1) (.n .o 28 (false,1) .o)) 29 (false,1) (.n (.n .o 30 (true,8) .o) 31 (true,8) .o)))) 32 (false,1) (.n (.n (.n (.n (.n .o 33 (true,3) .o) 34 (true,3) (.n .o 35 (false,1) .o)) 36 (false,1) (.n (.n .o 37 (false,1) .o) 38 (false,1) (.n .o 40 (false,1) .o))) 41 (false,1) (.n (.n (.n .o 42 (false,1) .o) 43 (false,1) (.n .o 44 (true,2) .o)) 45 (true,2) (.n (.n .o 46 (true,7) .o) 47 (true,7) (.n .o 49 (false,1) .o)))) 50 (false,1) (.n (.n (.n (.n .o 51 (false,1) .o) 52 (false,1) (.n .o 53 (false,1) .o)) 54 (true,4) (.n (.n .o 55 (true,4) .o) 56 (true,3) (.n .o 57 (true,3) .o))) 58 (true,3) (.n (.n (.n .o 59 (true,3) .o) 60 (false,1) (.n .o 61 (true,8) .o)) 62 (true,8) (.n (.n .o 63 (true,2) .o) 64 (true,2) .o))))) 65 (true,3) (.n (.n (.n (.n (.n (.n .o 66 (true,3) .o) 67 (false,1) (.n .o 69 (false,1) .o)) 70 (false,1) (.n (.n .o 71 (true,3) .o) 72 (true,3) (.n .o 73 (false,1) .o))) 75 (false,1) (.n (.n (.n .o 76 (false,1) .o) 77 (false,1) (.n .o 78 (false,1) .o)) 79 (false,1) (.n (.n .o 80 (false,1) .o) 81 (false,1) (.n .o 83 (false,1) .o)))) 85 (false,1) (.n (.n (.n (.n .o 86 (false,1) .o) 88 (false,1) (.n .o 89 (true,2) .o)) 90 (false,1) (.n (.n .o 91 (false,1) .o) 92 (false,1) (.n .o 93 (true,8) .o))) 94 (false,1) (.n (.n (.n .o 95 (false,1) .o) 96 (false,1) (.n .o 97 (false,1) .o)) 98 (false,1) (.n (.n .o 99 (false,1) .o) 100 (true,3) .o)))) 101 (true,3) (.n (.n (.n (.n (.n .o 102 (false,1) .o) 103 (false,1) (.n .o 104 (false,1) .o)) 105 (false,1) (.n (.n .o 106 (false,1) .o) 107 (false,1) (.n .o 108 (false,1) .o))) 109 (false,1) (.n (.n (.n .o 110 (false,1) .o) 111 (false,1) (.n .o 112 (false,1) .o)) 113 (false,1) (.n (.n .o 114 (true,2) .o) 115 (true,2) .o))) 116 (false,1) (.n (.n (.n (.n .o 120 (false,1) .o) 121 (false,1) (.n .o 122 (false,1) .o)) 123 (false,1) (.n (.n .o 124 (false,1) .o) 125 (false,1) (.n .o 127 (false,1) .o))) 128 (false,1) (.n (.n (.n .o 129 (false,1) .o) 130 (false,1) (.n .o 132 (false,1) .o)) 133 (false,1) (.n (.n .o 134 (false,1) .o) 135 (false,1) .o)))))) 136 (false,1) (.n (.n (.n (.n (.n (.n (.n .o 137 (false,1) .o) 138 (false,1) (.n .o 139 (false,1) .o)) 140 (false,1) (.n (.n .o 141 (false,1) .o) 142 (false,1) (.n .o 143 (false,1) .o))) 144 (false,1) (.n (.n (.n .o 145 (true,11) .o) 146 (true,11) (.n .o 147 (false,1) .o)) 148 (false,1) (.n (.n .o 149 (false,1) .o) 150 (false,1) (.n .o 151 (false,1) .o)))) 152 (false,1) (.n (.n (.n (.n .o 153 (false,1) .o) 154 (false,1) (.n .o 155 (false,1) .o)) 156 (false,1) (.n (.n .o 157 (false,1) .o) 158 (false,1) (.n .o 159 (false,1) .o))) 160 (false,1) (.n (.n (.n .o 161 (true,10) .o) 162 (false,1) (.n .o 163 (false,1) .o)) 164 (false,1) (.n (.n .o 165 (false,1) .o) 166 (false,1) .o)))) 167 (false,1) (.n (.n (.n (.n (.n .o 168 (false,1) .o) 169 (false,1) (.n .o 170 (false,1) .o)) 171 (false,1) (.n (.n .o 172 (false,1) .o) 173 (false,1) (.n .o 174 (false,1) .o))) 175 (false,1) (.n (.n (.n .o 176 (false,1) .o) 177 (false,1) (.n .o 178 (true,24) .o)) 179 (false,1) (.n (.n .o 180 (false,1) .o) 181 (false,1) .o))) 183 (false,1) (.n (.n (.n (.n .o 185 (false,1) .o) 186 (false,1) (.n .o 187 (false,1) .o)) 188 (false,1) (.n (.n .o 189 (false,1) .o) 190 (false,1) (.n .o 191 (false,1) .o))) 192 (false,1) (.n (.n (.n .o 193 (false,1) .o) 194 (true,256) (.n .o 195 (true,256) .o)) 197 (false,1) (.n (.n .o 198 (false,1) .o) 199 (false,1) .o))))) 200 (false,1) (.n (.n (.n (.n (.n (.n .o 201 (false,1) .o) 202 (false,1) (.n .o 203 (false,1) .o)) 204 (false,1) (.n (.n .o 205 (false,1) .o) 206 (false,1) (.n .o 207 (false,1) .o))) 208 (false,1) (.n (.n (.n .o 209 (false,1) .o) 210 (false,1) (.n .o 211 (false,1) .o)) 212 (true,20) (.n (.n .o 213 (false,1) .o) 214 (true,65) (.n .o 215 (false,1) .o)))) 216 (false,1) (.n (.n (.n (.n .o 217 (false,1) .o) 218 (false,1) (.n .o 220 (false,1) .o)) 221 (false,1) (.n (.n .o 222 (false,1) .o) 223 (false,1) (.n .o 224 (false,1) .o))) 226 (false,1) (.n (.n (.n .o 227 (false,1) .o) 228 (false,1) (.n .o 229 (false,1) .o)) 230 (false,1) (.n (.n .o 231 (false,1) .o) 232 (false,1) .o)))) 233 (false,1) (.n (.n (.n (.n (.n .o 235 (false,1) .o) 236 (true,3) (.n .o 237 (true,3) .o)) 238 (false,1) (.n (.n .o 239 (true,32) .o) 240 (true,64) (.n .o 241 (true,256) .o))) 242 (true,2) (.n (.n (.n .o 243 (true,2) .o) 244 (true,32) (.n .o 246 (false,1) .o)) 247 (false,1) (.n (.n .o 248 (false,1) .o) 249 (false,1) .o))) 250 (true,1) (.n (.n (.n (.n .o 251 (true,1) .o) 252 (true,4) (.n .o 253 (true,4) .o)) 254 (true,0) (.n (.n .o 255 (true,0) .o) 256 (true,0) (.n .o 257 (false,1) .o))) 258 (false,1) (.n (.n (.n .o 259 (false,1) .o) 260 (false,1) (.n .o 261 (false,1) .o)) 262 (false,1) (.n (.n .o 263 (true,11) .o) 264 (true,11) .o)))))))
 st:=(.n (.n (.n (.n .o 22 (9,1,16) .o) 23 (55,4,40) (.n .o 24 (57,3,48) .o)) 25 (59,3,40) (.n (.n .o 26 (62,8,152) .o) 27 (66,3,40) (.n .o 28 (101,3,24) .o))) 29 (101,3,24) (.n (.n (.n .o 32 (3,1,8) .o) 60 (64,2,16) (.n .o 73 (72,3,24) .o)) 81 (47,7,72) (.n (.n .o 94 (97,1,8) .o) 113 (5,1,1) (.n .o 159 (32,1,24) .o))))
 fk:=by kernel_rfl
 kk:=by kernel_rfl
 sk:=by kernel_rfl
end Go.Proofs.YtdpbapffdmahnaaGreatDoor
