/- Merged texts of this proof (walks and plain laws), printed by a program of the prover. -/
import Derived.Test.YtdpbapffdmahnaaGreatDoorZb
import Derived.Test.YtdpbapffdmahnaaGreatDoorProg
import Derived.KernelRfl
namespace Go.Proofs.YtdpbapffdmahnaaGreatDoor
open Go.Proofs
theorem mixed:Tryz.prog.follows .mixedOrders=true:=by kernel_rfl
theorem tk3:tk Tryz.prog 3=some (false,1):=by kernel_rfl
theorem tk4:tk Tryz.prog 4=some (false,1):=by kernel_rfl
theorem tk9:tk Tryz.prog 9=some (false,1):=by kernel_rfl
theorem tk32:tk Tryz.prog 32=some (false,1):=by kernel_rfl
theorem tk45:tk Tryz.prog 45=some (true,2):=by kernel_rfl
theorem tk47:tk Tryz.prog 47=some (true,7):=by kernel_rfl
theorem tk97:tk Tryz.prog 97=some (false,1):=by kernel_rfl
theorem Jpg:tk Tryz.prog 134=some (false,1):=by kernel_rfl
theorem zv3:zv Tryz.prog 3=some [.int .i64 0]:=by kernel_rfl
theorem zv9:zv Tryz.prog 9=some [.string ⟨#[]⟩]:=by kernel_rfl
theorem zv32:zv Tryz.prog 32=some [.slice none 0 0]:=by kernel_rfl
theorem zv45:zv Tryz.prog 45=some [.int .i64 0,.int .i64 0]:=by kernel_rfl
theorem zv47:zv Tryz.prog 47=some [.int .i64 0,.int .i64 0,.int .i64 0,.int .i64 0,.int .i64 0,.slice none 0 0,.bool false]:=by kernel_rfl
theorem Joa:zv Tryz.prog 161=some (List.replicate 10 (.int .i64 0)):=by kernel_rfl
theorem sl22:sl Tryz.prog 22=some (9,1,16):=by kernel_rfl
theorem sl32:sl Tryz.prog 32=some (3,1,8):=by kernel_rfl
theorem sl81:sl Tryz.prog 81=some (47,7,72):=by kernel_rfl
theorem sl94:sl Tryz.prog 94=some (97,1,8):=by kernel_rfl
theorem Jmf:sl Tryz.prog 159=some (32,1,24):=by kernel_rfl
theorem Jcg:arr Tryz.prog 161=some (10,1):=by kernel_rfl
theorem Jpd:plc Tryz.prog 45=some [(0,1),(1,1)]:=by kernel_rfl
theorem Jfy:plc Tryz.prog 47=some [(0,1),(1,1),(2,1),(3,1),(4,1),(5,1),(6,1)]:=by kernel_rfl
theorem Jov:Ent Tryz.prog 13:=Jaj Tryz.func13 (by kernel_rfl) rfl
theorem Jpz:Ent Tryz.prog 14:=Jaj Tryz.func14 (by kernel_rfl) rfl
theorem Joy:Ent Tryz.prog 16:=Jaj Tryz.func16 (by kernel_rfl) rfl
theorem Jpk:Ent Tryz.prog 17:=Jaj Tryz.func17 (by kernel_rfl) rfl
theorem Jpi:Ent Tryz.prog 18:=Jaj Tryz.func18 (by kernel_rfl) rfl
theorem Jnv:Ent Tryz.prog 24:=Jaj Tryz.func24 (by kernel_rfl) rfl
theorem Jpu:Ent Tryz.prog 25:=Jaj Tryz.func25 (by kernel_rfl) rfl
theorem Jpw:Ent Tryz.prog 30:=Jaj Tryz.func30 (by kernel_rfl) rfl
theorem Jo7:Ent Tryz.prog 31:=Jaj Tryz.func31 (by kernel_rfl) rfl
theorem Jkr:Ent Tryz.prog 32:=Jaj Tryz.func32 (by kernel_rfl) rfl
theorem Jo5:Ent Tryz.prog 33:=Jaj Tryz.func33 (by kernel_rfl) rfl
theorem Jmx:Ent Tryz.prog 34:=Jaj Tryz.func34 (by kernel_rfl) rfl
theorem Jo8:Ent Tryz.prog 35:=Jaj Tryz.func35 (by kernel_rfl) rfl
theorem Jpr:Ent Tryz.prog 37:=Jaj Tryz.func37 (by kernel_rfl) rfl
theorem Jpy:Ent Tryz.prog 38:=Jaj Tryz.func38 (by kernel_rfl) rfl
theorem Jpn:Ent Tryz.prog 39:=Jaj Tryz.func39 (by kernel_rfl) rfl
theorem Jox:Ent Tryz.prog 40:=Jaj Tryz.func40 (by kernel_rfl) rfl
theorem Jps:Ent Tryz.prog 41:=Jaj Tryz.func41 (by kernel_rfl) rfl
theorem Jp1:Ent Tryz.prog 42:=Jaj Tryz.func42 (by kernel_rfl) rfl
theorem Jpf:Ent Tryz.prog 43:=Jaj Tryz.func43 (by kernel_rfl) rfl
theorem Jl6:Ent Tryz.prog 44:=Jaj Tryz.func44 (by kernel_rfl) rfl
theorem Jp2:Ent Tryz.prog 61:=Jaj Tryz.func61 (by kernel_rfl) rfl
theorem Jpm:Ent Tryz.prog 62:=Jaj Tryz.func62 (by kernel_rfl) rfl
theorem Jo6:Ent Tryz.prog 63:=Jaj Tryz.func63 (by kernel_rfl) rfl
theorem Joo:Ent Tryz.prog 64:=Jaj Tryz.func64 (by kernel_rfl) rfl
theorem Jdk:Ent Tryz.prog 65:=Jaj Tryz.func65 (by kernel_rfl) rfl
theorem Jpe:Ent Tryz.prog 66:=Jaj Tryz.func66 (by kernel_rfl) rfl
theorem Jo9:Ent Tryz.prog 67:=Jaj Tryz.func67 (by kernel_rfl) rfl
theorem Jnx:Ent Tryz.prog 68:=Jaj Tryz.func68 (by kernel_rfl) rfl
theorem Jpj:Ent Tryz.prog 69:=Jaj Tryz.func69 (by kernel_rfl) rfl
theorem Jfu:Ent Tryz.prog 70:=Jaj Tryz.func70 (by kernel_rfl) rfl
theorem Jne:Ent Tryz.prog 71:=Jaj Tryz.func71 (by kernel_rfl) rfl
theorem Jns:Ent Tryz.prog 72:=Jaj Tryz.func72 (by kernel_rfl) rfl
theorem Jc0:Ent Tryz.prog 73:=Jaj Tryz.func73 (by kernel_rfl) rfl
theorem Jp0:Ent Tryz.prog 77:=Jaj Tryz.func77 (by kernel_rfl) rfl
theorem Jpl:Ent Tryz.prog 92:=Jaj Tryz.func92 (by kernel_rfl) rfl
theorem Joz:Ent Tryz.prog 104:=Jaj Tryz.func104 (by kernel_rfl) rfl
theorem Jom:Ent Tryz.prog 105:=Jaj Tryz.func105 (by kernel_rfl) rfl
theorem Jos:Ent Tryz.prog 106:=Jaj Tryz.func106 (by kernel_rfl) rfl
theorem Jn4:Ent Tryz.prog 107:=Jaj Tryz.func107 (by kernel_rfl) rfl
theorem Jn9:Ent Tryz.prog 108:=Jaj Tryz.func108 (by kernel_rfl) rfl
theorem Jn3:Ent Tryz.prog 110:=Jaj Tryz.func110 (by kernel_rfl) rfl
theorem Jn0:Ent Tryz.prog 111:=Jaj Tryz.func111 (by kernel_rfl) rfl
theorem Jnt:Ent Tryz.prog 112:=Jaj Tryz.func112 (by kernel_rfl) rfl
theorem Jo1:Ent Tryz.prog 129:=Jaj Tryz.func129 (by kernel_rfl) rfl
theorem Jlo:Ent Tryz.prog 140:=Jaj Tryz.func140 (by kernel_rfl) rfl
theorem Jon:Ent Tryz.prog 141:=Jaj Tryz.func141 (by kernel_rfl) rfl
theorem Jow:Ent Tryz.prog 142:=Jaj Tryz.func142 (by kernel_rfl) rfl
theorem Jo3:Ent Tryz.prog 143:=Jaj Tryz.func143 (by kernel_rfl) rfl
theorem Jo4:Ent Tryz.prog 144:=Jaj Tryz.func144 (by kernel_rfl) rfl
theorem Joi:Ent Tryz.prog 174:=Jaj Tryz.func174 (by kernel_rfl) rfl
theorem Joe:Ent Tryz.prog 175:=Jaj Tryz.func175 (by kernel_rfl) rfl
theorem Jou:Ent Tryz.prog 176:=Jaj Tryz.func176 (by kernel_rfl) rfl
theorem Jnw:Ent Tryz.prog 193:=Jaj Tryz.func193 (by kernel_rfl) rfl
instance:Fx Tryz.prog where
 ft:=(.n (.n (.n (.n (.n (.n .o 7 [0,1,2,3] .o) 8 [0,1,2,3] .o) 13 [0,1] (.n (.n .o 14 [0,1] .o) 18 [0] .o)) 19 [0] (.n (.n (.n .o 30 [0,1,2,3,4,5,6,7] .o) 31 [0,1,2,3,4,5,6,7] .o) 33 [0,1,2] (.n (.n .o 34 [0,1,2] .o) 44 [0,1] .o))) 45 [0,1] (.n (.n (.n (.n .o 46 [0,1,2,3,4,5,6] .o) 47 [0,1,2,3,4,5,6] .o) 54 [0,1,2,3] (.n (.n .o 55 [0,1,2,3] .o) 56 [0,1,2] .o)) 57 [0,1,2] (.n (.n (.n .o 58 [0,1,2] .o) 59 [0,1,2] .o) 61 [0,1,2,3,4,5,6,7] (.n .o 62 [0,1,2,3,4,5,6,7] .o)))) 63 [0,1] (.n (.n (.n (.n (.n .o 64 [0,1] .o) 65 [0,1] .o) 66 [0,1] (.n (.n .o 71 [0,1,2] .o) 72 [0,1,2] .o)) 89 [0,1] (.n (.n (.n .o 100 [0,1,2] .o) 101 [0,1,2] .o) 114 [0,1] (.n (.n .o 115 [0,1] .o) 145 [0,8] .o))) 146 [0,8] (.n (.n (.n (.n .o 236 [0,1,2] .o) 237 [0,1,2] .o) 242 [0,1] (.n (.n .o 243 [0,1] .o) 250 [0] .o)) 251 [0] (.n (.n (.n .o 252 [0,1,2,3] .o) 253 [0,1,2,3] .o) 263 [0,1,2,3,4,5,6,7,8,9,10] (.n .o 264 [0,1,2,3,4,5,6,7,8,9,10] .o)))))
 kt:=(.n (.n (.n (.n (.n (.n (.n (.n .o 1 (false,1) .o) 2 (false,1) (.n .o 3 (false,1) .o)) 4 (false,1) (.n (.n .o 5 (false,1) .o) 6 (false,1) (.n .o 7 (true,4) .o))) 8 (true,4) (.n (.n (.n .o 9 (false,1) .o) 10 (false,1) (.n .o 11 (false,1) .o)) 12 (false,1) (.n (.n .o 13 (true,2) .o) 14 (true,2) (.n .o 15 (false,1) .o)))) 16 (false,1) (.n (.n (.n (.n .o 17 (false,1) .o) 18 (true,1) (.n .o 19 (true,1) .o)) 21 (false,1) (.n (.n .o 22 (false,1) .o) 23 (false,1) (.n .o 24 (false,1) .o))) 25 (false,1) (.n (.n (.n .o 26 (false,1) .o) 27 (false,1) (.n .o 28 (false,1) .o)) 29 (false,1) (.n (.n .o 30 (true,8) .o) 31 (true,8) .o)))) 32 (false,1) (.n (.n (.n (.n (.n .o 33 (true,3) .o) 34 (true,3) (.n .o 35 (false,1) .o)) 36 (false,1) (.n (.n .o 37 (false,1) .o) 38 (false,1) (.n .o 40 (false,1) .o))) 41 (false,1) (.n (.n (.n .o 42 (false,1) .o) 43 (false,1) (.n .o 44 (true,2) .o)) 45 (true,2) (.n (.n .o 46 (true,7) .o) 47 (true,7) (.n .o 49 (false,1) .o)))) 50 (false,1) (.n (.n (.n (.n .o 51 (false,1) .o) 52 (false,1) (.n .o 53 (false,1) .o)) 54 (true,4) (.n (.n .o 55 (true,4) .o) 56 (true,3) (.n .o 57 (true,3) .o))) 58 (true,3) (.n (.n (.n .o 59 (true,3) .o) 60 (false,1) (.n .o 61 (true,8) .o)) 62 (true,8) (.n (.n .o 63 (true,2) .o) 64 (true,2) .o))))) 65 (true,3) (.n (.n (.n (.n (.n (.n .o 66 (true,3) .o) 67 (false,1) (.n .o 69 (false,1) .o)) 70 (false,1) (.n (.n .o 71 (true,3) .o) 72 (true,3) (.n .o 73 (false,1) .o))) 75 (false,1) (.n (.n (.n .o 76 (false,1) .o) 77 (false,1) (.n .o 78 (false,1) .o)) 79 (false,1) (.n (.n .o 80 (false,1) .o) 81 (false,1) (.n .o 83 (false,1) .o)))) 85 (false,1) (.n (.n (.n (.n .o 86 (false,1) .o) 88 (false,1) (.n .o 89 (true,2) .o)) 90 (false,1) (.n (.n .o 91 (false,1) .o) 92 (false,1) (.n .o 93 (true,8) .o))) 94 (false,1) (.n (.n (.n .o 95 (false,1) .o) 96 (false,1) (.n .o 97 (false,1) .o)) 98 (false,1) (.n (.n .o 99 (false,1) .o) 100 (true,3) .o)))) 101 (true,3) (.n (.n (.n (.n (.n .o 102 (false,1) .o) 103 (false,1) (.n .o 104 (false,1) .o)) 105 (false,1) (.n (.n .o 106 (false,1) .o) 107 (false,1) (.n .o 108 (false,1) .o))) 109 (false,1) (.n (.n (.n .o 110 (false,1) .o) 111 (false,1) (.n .o 112 (false,1) .o)) 113 (false,1) (.n (.n .o 114 (true,2) .o) 115 (true,2) .o))) 116 (false,1) (.n (.n (.n (.n .o 120 (false,1) .o) 121 (false,1) (.n .o 122 (false,1) .o)) 123 (false,1) (.n (.n .o 124 (false,1) .o) 125 (false,1) (.n .o 127 (false,1) .o))) 128 (false,1) (.n (.n (.n .o 129 (false,1) .o) 130 (false,1) (.n .o 132 (false,1) .o)) 133 (false,1) (.n (.n .o 134 (false,1) .o) 135 (false,1) .o)))))) 136 (false,1) (.n (.n (.n (.n (.n (.n (.n .o 137 (false,1) .o) 138 (false,1) (.n .o 139 (false,1) .o)) 140 (false,1) (.n (.n .o 141 (false,1) .o) 142 (false,1) (.n .o 143 (false,1) .o))) 144 (false,1) (.n (.n (.n .o 145 (true,11) .o) 146 (true,11) (.n .o 147 (false,1) .o)) 148 (false,1) (.n (.n .o 149 (false,1) .o) 150 (false,1) (.n .o 151 (false,1) .o)))) 152 (false,1) (.n (.n (.n (.n .o 153 (false,1) .o) 154 (false,1) (.n .o 155 (false,1) .o)) 156 (false,1) (.n (.n .o 157 (false,1) .o) 158 (false,1) (.n .o 159 (false,1) .o))) 160 (false,1) (.n (.n (.n .o 161 (true,10) .o) 162 (false,1) (.n .o 163 (false,1) .o)) 164 (false,1) (.n (.n .o 165 (false,1) .o) 166 (false,1) .o)))) 167 (false,1) (.n (.n (.n (.n (.n .o 168 (false,1) .o) 169 (false,1) (.n .o 170 (false,1) .o)) 171 (false,1) (.n (.n .o 172 (false,1) .o) 173 (false,1) (.n .o 174 (false,1) .o))) 175 (false,1) (.n (.n (.n .o 176 (false,1) .o) 177 (false,1) (.n .o 178 (true,24) .o)) 179 (false,1) (.n (.n .o 180 (false,1) .o) 181 (false,1) .o))) 183 (false,1) (.n (.n (.n (.n .o 185 (false,1) .o) 186 (false,1) (.n .o 187 (false,1) .o)) 188 (false,1) (.n (.n .o 189 (false,1) .o) 190 (false,1) (.n .o 191 (false,1) .o))) 192 (false,1) (.n (.n (.n .o 193 (false,1) .o) 194 (true,256) (.n .o 195 (true,256) .o)) 197 (false,1) (.n (.n .o 198 (false,1) .o) 199 (false,1) .o))))) 200 (false,1) (.n (.n (.n (.n (.n (.n .o 201 (false,1) .o) 202 (false,1) (.n .o 203 (false,1) .o)) 204 (false,1) (.n (.n .o 205 (false,1) .o) 206 (false,1) (.n .o 207 (false,1) .o))) 208 (false,1) (.n (.n (.n .o 209 (false,1) .o) 210 (false,1) (.n .o 211 (false,1) .o)) 212 (true,20) (.n (.n .o 213 (false,1) .o) 214 (true,65) (.n .o 215 (false,1) .o)))) 216 (false,1) (.n (.n (.n (.n .o 217 (false,1) .o) 218 (false,1) (.n .o 220 (false,1) .o)) 221 (false,1) (.n (.n .o 222 (false,1) .o) 223 (false,1) (.n .o 224 (false,1) .o))) 226 (false,1) (.n (.n (.n .o 227 (false,1) .o) 228 (false,1) (.n .o 229 (false,1) .o)) 230 (false,1) (.n (.n .o 231 (false,1) .o) 232 (false,1) .o)))) 233 (false,1) (.n (.n (.n (.n (.n .o 235 (false,1) .o) 236 (true,3) (.n .o 237 (true,3) .o)) 238 (false,1) (.n (.n .o 239 (true,32) .o) 240 (true,64) (.n .o 241 (true,256) .o))) 242 (true,2) (.n (.n (.n .o 243 (true,2) .o) 244 (true,32) (.n .o 246 (false,1) .o)) 247 (false,1) (.n (.n .o 248 (false,1) .o) 249 (false,1) .o))) 250 (true,1) (.n (.n (.n (.n .o 251 (true,1) .o) 252 (true,4) (.n .o 253 (true,4) .o)) 254 (true,0) (.n (.n .o 255 (true,0) .o) 256 (true,0) (.n .o 257 (false,1) .o))) 258 (false,1) (.n (.n (.n .o 259 (false,1) .o) 260 (false,1) (.n .o 261 (false,1) .o)) 262 (false,1) (.n (.n .o 263 (true,11) .o) 264 (true,11) .o)))))))
 st:=(.n (.n (.n (.n .o 22 (9,1,16) .o) 23 (55,4,40) (.n .o 24 (57,3,48) .o)) 25 (59,3,40) (.n (.n .o 26 (62,8,152) .o) 27 (66,3,40) (.n .o 28 (101,3,24) .o))) 29 (101,3,24) (.n (.n (.n .o 32 (3,1,8) .o) 60 (64,2,16) (.n .o 73 (72,3,24) .o)) 81 (47,7,72) (.n (.n .o 94 (97,1,8) .o) 113 (5,1,1) (.n .o 159 (32,1,24) .o))))
 fk:=by kernel_rfl
 kk:=by kernel_rfl
 sk:=by kernel_rfl
end Go.Proofs.YtdpbapffdmahnaaGreatDoor
