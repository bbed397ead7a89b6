/- Texts joined: Shelf, Strs, Kinds, NumsI. Conditions: as each theorem names them. -/
import Derived.Shelf.Strings.SlTrimAscii
import Derived.Shelf.Strings.Prefix
import Derived.Shelf.Strings.Search3
import Derived.Shelf.Strings.Count
import Derived.Shelf.Strings.OnBuilder
import Derived.Shelf.SlicesE.Clone
import Derived.Test.YtcjfgbcdlcdeaaaGreatDoorProg
import Derived.Lib.IndexLaws
import Derived.Test.YtcjfgbcdlcdeaaaGreatDoorK01
/- The closures of library functions of this dump, as the shelf's own tool lays them in plain text. Conditions: none. -/
namespace Go.Proofs
open Go.Shelf
def Tryz.lays160_ren : Go.Shelf.Ren := ⟨fun | 160 => 158 | 232 => 183 | 231 => 152 | 227 => 153 | 234 => 184 | 233 => 154 | 236 => 185 | 235 => 155 | 228 => 180 | 271 => 198 | 151 => 182 | 197 => 181 | 120 => 206 | 152 => 197 | 260 => 196 | 137 => 204 | 119 => 205 | 224 => 191 | 225 => 190 | 217 => 189 | 266 => 200 | n => n, fun | 9 => 9 | 4 => 4 | 3 => 3 | 5 => 5 | 117 => 218 | 116 => 217 | 0 => 0 | 124 => 221 | 21 => 21 | 105 => 238 | 46 => 247 | 119 => 253 | 139 => 256 | 138 => 255 | n => n, fun | 3 => 1 | 4 => 2 | n => n⟩
theorem Tryz.lays160 : Go.Proofs.Lays.n160 Tryz.prog Tryz.lays160_ren := {
  mixed := by kernel_rfl
  f119 := Tryz.func205.trans (congrArg some (by kernel_rfl))
  f120 := Tryz.func206.trans (congrArg some (by kernel_rfl))
  f137 := Tryz.func204.trans (congrArg some (by kernel_rfl))
  f151 := Tryz.func182.trans (congrArg some (by kernel_rfl))
  f152 := Tryz.func197.trans (congrArg some (by kernel_rfl))
  f160 := Tryz.func158.trans (congrArg some (by kernel_rfl))
  f197 := Tryz.func181.trans (congrArg some (by kernel_rfl))
  f217 := Tryz.func189.trans (congrArg some (by kernel_rfl))
  f224 := Tryz.func191.trans (congrArg some (by kernel_rfl))
  f225 := Tryz.func190.trans (congrArg some (by kernel_rfl))
  f227 := Tryz.func153.trans (congrArg some (by kernel_rfl))
  f228 := Tryz.func180.trans (congrArg some (by kernel_rfl))
  f231 := Tryz.func152.trans (congrArg some (by kernel_rfl))
  f232 := Tryz.func183.trans (congrArg some (by kernel_rfl))
  f233 := Tryz.func154.trans (congrArg some (by kernel_rfl))
  f234 := Tryz.func184.trans (congrArg some (by kernel_rfl))
  f235 := Tryz.func155.trans (congrArg some (by kernel_rfl))
  f236 := Tryz.func185.trans (congrArg some (by kernel_rfl))
  f260 := Tryz.func196.trans (congrArg some (by kernel_rfl))
  f266 := Tryz.func200.trans (congrArg some (by kernel_rfl))
  f271 := Tryz.func198.trans (congrArg some (by kernel_rfl))
  t0 := Tryz.underlying0
  a0 := Tryz.isAgg0
  z0 := Tryz.sizeOf0
  v0 := Tryz.zeroValue0
  t3 := Tryz.underlying3
  a3 := Tryz.isAgg3
  z3 := Tryz.sizeOf3
  v3 := Tryz.zeroValue3
  t4 := Tryz.underlying4
  a4 := Tryz.isAgg4
  z4 := Tryz.sizeOf4
  v4 := Tryz.zeroValue4
  t5 := Tryz.underlying5
  a5 := Tryz.isAgg5
  z5 := Tryz.sizeOf5
  v5 := Tryz.zeroValue5
  t9 := Tryz.underlying9
  a9 := Tryz.isAgg9
  z9 := Tryz.sizeOf9
  v9 := Tryz.zeroValue9
  t21 := Tryz.underlying21
  a21 := Tryz.isAgg21
  z21 := Tryz.sizeOf21
  v21 := Tryz.zeroValue21
  t46 := Tryz.underlying247
  a46 := Tryz.isAgg247
  z46 := Tryz.sizeOf247
  v46 := Tryz.zeroValue247
  t105 := Tryz.underlying238
  a105 := Tryz.isAgg238
  z105 := Tryz.sizeOf238
  v105 := Tryz.zeroValue238
  t116 := Tryz.underlying217
  a116 := Tryz.isAgg217
  z116 := Tryz.sizeOf217
  t117 := Tryz.underlying218
  a117 := Tryz.isAgg218
  z117 := Tryz.sizeOf218
  v117 := Tryz.zeroValue218
  t119 := Tryz.underlying253
  a119 := Tryz.isAgg253
  z119 := Tryz.sizeOf253
  t124 := Tryz.underlying221
  a124 := Tryz.isAgg221
  z124 := Tryz.sizeOf221
  v124 := Tryz.zeroValue221
  t138 := Tryz.underlying255
  a138 := Tryz.isAgg255
  z138 := Tryz.sizeOf255
  v138 := Tryz.zeroValue255
  t139 := Tryz.underlying256
  a139 := Tryz.isAgg256
  z139 := Tryz.sizeOf256
  v139 := Tryz.zeroValue256
  g3 := by kernel_rfl
  g4 := by kernel_rfl }
def Tryz.lays161_ren : Go.Shelf.Ren := ⟨fun | 161 => 118 | 231 => 152 | 227 => 153 | 233 => 154 | 235 => 155 | 228 => 180 | 197 => 181 | 151 => 182 | 260 => 196 | 152 => 197 | 137 => 204 | 119 => 205 | 224 => 191 | 225 => 190 | 217 => 189 | 266 => 200 | n => n, fun | 9 => 9 | 4 => 4 | 3 => 3 | 5 => 5 | 117 => 218 | 116 => 217 | 0 => 0 | 124 => 221 | 105 => 238 | 21 => 21 | 119 => 253 | 46 => 247 | 139 => 256 | 138 => 255 | n => n, fun | 3 => 1 | 4 => 2 | n => n⟩
theorem Tryz.lays161 : Go.Proofs.Lays.n161 Tryz.prog Tryz.lays161_ren := {
  mixed := by kernel_rfl
  f119 := Tryz.func205.trans (congrArg some (by kernel_rfl))
  f137 := Tryz.func204.trans (congrArg some (by kernel_rfl))
  f151 := Tryz.func182.trans (congrArg some (by kernel_rfl))
  f152 := Tryz.func197.trans (congrArg some (by kernel_rfl))
  f161 := Tryz.func118.trans (congrArg some (by kernel_rfl))
  f197 := Tryz.func181.trans (congrArg some (by kernel_rfl))
  f217 := Tryz.func189.trans (congrArg some (by kernel_rfl))
  f224 := Tryz.func191.trans (congrArg some (by kernel_rfl))
  f225 := Tryz.func190.trans (congrArg some (by kernel_rfl))
  f227 := Tryz.func153.trans (congrArg some (by kernel_rfl))
  f228 := Tryz.func180.trans (congrArg some (by kernel_rfl))
  f231 := Tryz.func152.trans (congrArg some (by kernel_rfl))
  f233 := Tryz.func154.trans (congrArg some (by kernel_rfl))
  f235 := Tryz.func155.trans (congrArg some (by kernel_rfl))
  f260 := Tryz.func196.trans (congrArg some (by kernel_rfl))
  f266 := Tryz.func200.trans (congrArg some (by kernel_rfl))
  t0 := Tryz.underlying0
  a0 := Tryz.isAgg0
  z0 := Tryz.sizeOf0
  v0 := Tryz.zeroValue0
  t3 := Tryz.underlying3
  a3 := Tryz.isAgg3
  z3 := Tryz.sizeOf3
  v3 := Tryz.zeroValue3
  t4 := Tryz.underlying4
  a4 := Tryz.isAgg4
  z4 := Tryz.sizeOf4
  v4 := Tryz.zeroValue4
  t5 := Tryz.underlying5
  a5 := Tryz.isAgg5
  z5 := Tryz.sizeOf5
  v5 := Tryz.zeroValue5
  t9 := Tryz.underlying9
  a9 := Tryz.isAgg9
  z9 := Tryz.sizeOf9
  v9 := Tryz.zeroValue9
  t21 := Tryz.underlying21
  a21 := Tryz.isAgg21
  z21 := Tryz.sizeOf21
  v21 := Tryz.zeroValue21
  t46 := Tryz.underlying247
  a46 := Tryz.isAgg247
  z46 := Tryz.sizeOf247
  v46 := Tryz.zeroValue247
  t105 := Tryz.underlying238
  a105 := Tryz.isAgg238
  z105 := Tryz.sizeOf238
  v105 := Tryz.zeroValue238
  t116 := Tryz.underlying217
  a116 := Tryz.isAgg217
  z116 := Tryz.sizeOf217
  t117 := Tryz.underlying218
  a117 := Tryz.isAgg218
  z117 := Tryz.sizeOf218
  v117 := Tryz.zeroValue218
  t119 := Tryz.underlying253
  a119 := Tryz.isAgg253
  z119 := Tryz.sizeOf253
  t124 := Tryz.underlying221
  a124 := Tryz.isAgg221
  z124 := Tryz.sizeOf221
  v124 := Tryz.zeroValue221
  t138 := Tryz.underlying255
  a138 := Tryz.isAgg255
  z138 := Tryz.sizeOf255
  v138 := Tryz.zeroValue255
  t139 := Tryz.underlying256
  a139 := Tryz.isAgg256
  z139 := Tryz.sizeOf256
  v139 := Tryz.zeroValue256
  g3 := by kernel_rfl
  g4 := by kernel_rfl }
def Tryz.lays99_ren : Go.Shelf.Ren := ⟨fun | 99 => 119 | 206 => 156 | n => n, fun | 9 => 9 | 4 => 4 | 3 => 3 | n => n, fun | n => n⟩
theorem Tryz.lays99 : Go.Proofs.Lays.n99 Tryz.prog Tryz.lays99_ren := {
  mixed := by kernel_rfl
  f99 := Tryz.func119.trans (congrArg some (by kernel_rfl))
  f206 := Tryz.func156.trans (congrArg some (by kernel_rfl))
  t3 := Tryz.underlying3
  a3 := Tryz.isAgg3
  z3 := Tryz.sizeOf3
  v3 := Tryz.zeroValue3
  t4 := Tryz.underlying4
  a4 := Tryz.isAgg4
  z4 := Tryz.sizeOf4
  v4 := Tryz.zeroValue4
  t9 := Tryz.underlying9
  a9 := Tryz.isAgg9
  z9 := Tryz.sizeOf9
  v9 := Tryz.zeroValue9 }
def Tryz.lays100_ren : Go.Shelf.Ren := ⟨fun | 100 => 120 | 207 => 157 | n => n, fun | 9 => 9 | 4 => 4 | 3 => 3 | n => n, fun | n => n⟩
theorem Tryz.lays100 : Go.Proofs.Lays.n100 Tryz.prog Tryz.lays100_ren := {
  mixed := by kernel_rfl
  f100 := Tryz.func120.trans (congrArg some (by kernel_rfl))
  f207 := Tryz.func157.trans (congrArg some (by kernel_rfl))
  t3 := Tryz.underlying3
  a3 := Tryz.isAgg3
  z3 := Tryz.sizeOf3
  v3 := Tryz.zeroValue3
  t4 := Tryz.underlying4
  a4 := Tryz.isAgg4
  z4 := Tryz.sizeOf4
  v4 := Tryz.zeroValue4
  t9 := Tryz.underlying9
  a9 := Tryz.isAgg9
  z9 := Tryz.sizeOf9
  v9 := Tryz.zeroValue9 }
def Tryz.lays143_ren : Go.Shelf.Ren := ⟨fun | 143 => 175 | 219 => 174 | 217 => 189 | 225 => 190 | 224 => 191 | 267 => 192 | 266 => 200 | 314 => 201 | n => n, fun | 9 => 9 | 3 => 3 | 4 => 4 | 5 => 5 | 46 => 247 | 146 => 251 | 51 => 250 | n => n, fun | 1 => 0 | n => n⟩
theorem Tryz.lays143 : Go.Proofs.Lays.n143 Tryz.prog Tryz.lays143_ren := {
  mixed := by kernel_rfl
  f143 := Tryz.func175.trans (congrArg some (by kernel_rfl))
  f217 := Tryz.func189.trans (congrArg some (by kernel_rfl))
  f219 := Tryz.func174.trans (congrArg some (by kernel_rfl))
  f224 := Tryz.func191.trans (congrArg some (by kernel_rfl))
  f225 := Tryz.func190.trans (congrArg some (by kernel_rfl))
  f266 := Tryz.func200.trans (congrArg some (by kernel_rfl))
  f267 := Tryz.func192.trans (congrArg some (by kernel_rfl))
  f314 := Tryz.func201.trans (congrArg some (by kernel_rfl))
  t3 := Tryz.underlying3
  a3 := Tryz.isAgg3
  z3 := Tryz.sizeOf3
  v3 := Tryz.zeroValue3
  t4 := Tryz.underlying4
  a4 := Tryz.isAgg4
  z4 := Tryz.sizeOf4
  v4 := Tryz.zeroValue4
  t5 := Tryz.underlying5
  a5 := Tryz.isAgg5
  z5 := Tryz.sizeOf5
  v5 := Tryz.zeroValue5
  t9 := Tryz.underlying9
  a9 := Tryz.isAgg9
  z9 := Tryz.sizeOf9
  v9 := Tryz.zeroValue9
  t46 := Tryz.underlying247
  a46 := Tryz.isAgg247
  z46 := Tryz.sizeOf247
  v46 := Tryz.zeroValue247
  t51 := Tryz.underlying250
  a51 := Tryz.isAgg250
  z51 := Tryz.sizeOf250
  v51 := Tryz.zeroValue250
  t146 := Tryz.underlying251
  a146 := Tryz.isAgg251
  z146 := Tryz.sizeOf251
  v146 := Tryz.zeroValue251
  g1 := by kernel_rfl }
def Tryz.lays144_ren : Go.Shelf.Ren := ⟨fun | 144 => 145 | 143 => 175 | 219 => 174 | 217 => 189 | 225 => 190 | 224 => 191 | 267 => 192 | 266 => 200 | 314 => 201 | n => n, fun | 9 => 9 | 4 => 4 | 3 => 3 | 5 => 5 | 46 => 247 | 146 => 251 | 51 => 250 | n => n, fun | 1 => 0 | n => n⟩
theorem Tryz.lays144 : Go.Proofs.Lays.n144 Tryz.prog Tryz.lays144_ren := {
  mixed := by kernel_rfl
  f143 := Tryz.func175.trans (congrArg some (by kernel_rfl))
  f144 := Tryz.func145.trans (congrArg some (by kernel_rfl))
  f217 := Tryz.func189.trans (congrArg some (by kernel_rfl))
  f219 := Tryz.func174.trans (congrArg some (by kernel_rfl))
  f224 := Tryz.func191.trans (congrArg some (by kernel_rfl))
  f225 := Tryz.func190.trans (congrArg some (by kernel_rfl))
  f266 := Tryz.func200.trans (congrArg some (by kernel_rfl))
  f267 := Tryz.func192.trans (congrArg some (by kernel_rfl))
  f314 := Tryz.func201.trans (congrArg some (by kernel_rfl))
  t3 := Tryz.underlying3
  a3 := Tryz.isAgg3
  z3 := Tryz.sizeOf3
  v3 := Tryz.zeroValue3
  t4 := Tryz.underlying4
  a4 := Tryz.isAgg4
  z4 := Tryz.sizeOf4
  v4 := Tryz.zeroValue4
  t5 := Tryz.underlying5
  a5 := Tryz.isAgg5
  z5 := Tryz.sizeOf5
  v5 := Tryz.zeroValue5
  t9 := Tryz.underlying9
  a9 := Tryz.isAgg9
  z9 := Tryz.sizeOf9
  v9 := Tryz.zeroValue9
  t46 := Tryz.underlying247
  a46 := Tryz.isAgg247
  z46 := Tryz.sizeOf247
  v46 := Tryz.zeroValue247
  t51 := Tryz.underlying250
  a51 := Tryz.isAgg250
  z51 := Tryz.sizeOf250
  v51 := Tryz.zeroValue250
  t146 := Tryz.underlying251
  a146 := Tryz.isAgg251
  z146 := Tryz.sizeOf251
  v146 := Tryz.zeroValue251
  g1 := by kernel_rfl }
def Tryz.lays138_ren : Go.Shelf.Ren := ⟨fun | 138 => 194 | 195 => 202 | 218 => 203 | 143 => 175 | 219 => 174 | 217 => 189 | 225 => 190 | 224 => 191 | 267 => 192 | 266 => 200 | 314 => 201 | n => n, fun | 9 => 9 | 3 => 3 | 4 => 4 | 5 => 5 | 0 => 0 | 46 => 247 | 146 => 251 | 51 => 250 | n => n, fun | 1 => 0 | n => n⟩
theorem Tryz.lays138 : Go.Proofs.Lays.n138 Tryz.prog Tryz.lays138_ren := {
  mixed := by kernel_rfl
  f138 := Tryz.func194.trans (congrArg some (by kernel_rfl))
  f143 := Tryz.func175.trans (congrArg some (by kernel_rfl))
  f195 := Tryz.func202.trans (congrArg some (by kernel_rfl))
  f217 := Tryz.func189.trans (congrArg some (by kernel_rfl))
  f218 := Tryz.func203.trans (congrArg some (by kernel_rfl))
  f219 := Tryz.func174.trans (congrArg some (by kernel_rfl))
  f224 := Tryz.func191.trans (congrArg some (by kernel_rfl))
  f225 := Tryz.func190.trans (congrArg some (by kernel_rfl))
  f266 := Tryz.func200.trans (congrArg some (by kernel_rfl))
  f267 := Tryz.func192.trans (congrArg some (by kernel_rfl))
  f314 := Tryz.func201.trans (congrArg some (by kernel_rfl))
  t0 := Tryz.underlying0
  a0 := Tryz.isAgg0
  z0 := Tryz.sizeOf0
  v0 := Tryz.zeroValue0
  t3 := Tryz.underlying3
  a3 := Tryz.isAgg3
  z3 := Tryz.sizeOf3
  v3 := Tryz.zeroValue3
  t4 := Tryz.underlying4
  a4 := Tryz.isAgg4
  z4 := Tryz.sizeOf4
  v4 := Tryz.zeroValue4
  t5 := Tryz.underlying5
  a5 := Tryz.isAgg5
  z5 := Tryz.sizeOf5
  v5 := Tryz.zeroValue5
  t9 := Tryz.underlying9
  a9 := Tryz.isAgg9
  z9 := Tryz.sizeOf9
  v9 := Tryz.zeroValue9
  t46 := Tryz.underlying247
  a46 := Tryz.isAgg247
  z46 := Tryz.sizeOf247
  v46 := Tryz.zeroValue247
  t51 := Tryz.underlying250
  a51 := Tryz.isAgg250
  z51 := Tryz.sizeOf250
  v51 := Tryz.zeroValue250
  t146 := Tryz.underlying251
  a146 := Tryz.isAgg251
  z146 := Tryz.sizeOf251
  v146 := Tryz.zeroValue251
  g1 := by kernel_rfl }
def Tryz.lays219_ren : Go.Shelf.Ren := ⟨fun | 219 => 174 | 217 => 189 | 225 => 190 | 224 => 191 | 267 => 192 | 266 => 200 | 314 => 201 | n => n, fun | 9 => 9 | 3 => 3 | 4 => 4 | 5 => 5 | 46 => 247 | 146 => 251 | 51 => 250 | n => n, fun | 1 => 0 | n => n⟩
theorem Tryz.lays219 : Go.Proofs.Lays.n219 Tryz.prog Tryz.lays219_ren := {
  mixed := by kernel_rfl
  f217 := Tryz.func189.trans (congrArg some (by kernel_rfl))
  f219 := Tryz.func174.trans (congrArg some (by kernel_rfl))
  f224 := Tryz.func191.trans (congrArg some (by kernel_rfl))
  f225 := Tryz.func190.trans (congrArg some (by kernel_rfl))
  f266 := Tryz.func200.trans (congrArg some (by kernel_rfl))
  f267 := Tryz.func192.trans (congrArg some (by kernel_rfl))
  f314 := Tryz.func201.trans (congrArg some (by kernel_rfl))
  t3 := Tryz.underlying3
  a3 := Tryz.isAgg3
  z3 := Tryz.sizeOf3
  v3 := Tryz.zeroValue3
  t4 := Tryz.underlying4
  a4 := Tryz.isAgg4
  z4 := Tryz.sizeOf4
  v4 := Tryz.zeroValue4
  t5 := Tryz.underlying5
  a5 := Tryz.isAgg5
  z5 := Tryz.sizeOf5
  v5 := Tryz.zeroValue5
  t9 := Tryz.underlying9
  a9 := Tryz.isAgg9
  z9 := Tryz.sizeOf9
  v9 := Tryz.zeroValue9
  t46 := Tryz.underlying247
  a46 := Tryz.isAgg247
  z46 := Tryz.sizeOf247
  v46 := Tryz.zeroValue247
  t51 := Tryz.underlying250
  a51 := Tryz.isAgg250
  z51 := Tryz.sizeOf250
  v51 := Tryz.zeroValue250
  t146 := Tryz.underlying251
  a146 := Tryz.isAgg251
  z146 := Tryz.sizeOf251
  v146 := Tryz.zeroValue251
  g1 := by kernel_rfl }
def Tryz.lays156_ren : Go.Shelf.Ren := ⟨fun | 156 => 71 | 165 => 104 | 166 => 105 | 169 => 106 | 240 => 141 | 241 => 142 | 276 => 172 | 277 => 173 | n => n, fun | 31 => 58 | 9 => 9 | 3 => 3 | 4 => 4 | 0 => 0 | 20 => 20 | 72 => 167 | 76 => 171 | 70 => 165 | 37 => 40 | 75 => 170 | 127 => 207 | 164 => 232 | 5 => 5 | 80 => 91 | n => n, fun | n => n⟩
theorem Tryz.lays156 : Go.Proofs.Lays.n156 Tryz.prog Tryz.lays156_ren := {
  mixed := by kernel_rfl
  f156 := Tryz.func71.trans (congrArg some (by kernel_rfl))
  f165 := Tryz.func104.trans (congrArg some (by kernel_rfl))
  f166 := Tryz.func105.trans (congrArg some (by kernel_rfl))
  f169 := Tryz.func106.trans (congrArg some (by kernel_rfl))
  f240 := Tryz.func141.trans (congrArg some (by kernel_rfl))
  f241 := Tryz.func142.trans (congrArg some (by kernel_rfl))
  f276 := Tryz.func172.trans (congrArg some (by kernel_rfl))
  f277 := Tryz.func173.trans (congrArg some (by kernel_rfl))
  t0 := Tryz.underlying0
  a0 := Tryz.isAgg0
  z0 := Tryz.sizeOf0
  v0 := Tryz.zeroValue0
  t3 := Tryz.underlying3
  a3 := Tryz.isAgg3
  z3 := Tryz.sizeOf3
  v3 := Tryz.zeroValue3
  t4 := Tryz.underlying4
  a4 := Tryz.isAgg4
  z4 := Tryz.sizeOf4
  v4 := Tryz.zeroValue4
  t9 := Tryz.underlying9
  a9 := Tryz.isAgg9
  z9 := Tryz.sizeOf9
  v9 := Tryz.zeroValue9
  t20 := Tryz.underlying20
  a20 := Tryz.isAgg20
  z20 := Tryz.sizeOf20
  v20 := Tryz.zeroValue20
  t31 := Tryz.underlying58
  a31 := Tryz.isAgg58
  z31 := Tryz.sizeOf58
  v31 := Tryz.zeroValue58
  t37 := Tryz.underlying40
  a37 := Tryz.isAgg40
  z37 := Tryz.sizeOf40
  v37 := Tryz.zeroValue40
  t70 := Tryz.underlying165
  a70 := Tryz.isAgg165
  z70 := Tryz.sizeOf165
  v70 := Tryz.zeroValue165
  t72 := Tryz.underlying167
  a72 := Tryz.isAgg167
  z72 := Tryz.sizeOf167
  v72 := Tryz.zeroValue167
  t75 := Tryz.underlying170
  a75 := Tryz.isAgg170
  z75 := Tryz.sizeOf170
  v75 := Tryz.zeroValue170
  t76 := Tryz.underlying171
  a76 := Tryz.isAgg171
  z76 := Tryz.sizeOf171
  v76 := Tryz.zeroValue171
  t127 := Tryz.underlying207
  a127 := Tryz.isAgg207
  z127 := Tryz.sizeOf207
  v127 := Tryz.zeroValue207
  t164 := Tryz.underlying232
  a164 := Tryz.isAgg232
  z164 := Tryz.sizeOf232
  v164 := Tryz.zeroValue232 }
def Tryz.laysE41_ren : Go.Shelf.Ren := ⟨fun | 41 => 48 | n => n, fun | 22 => 29 | 23 => 35 | 4 => 4 | n => n, fun | n => n⟩
theorem Tryz.laysE41 : Go.Proofs.SlLaysE0.n41 Tryz.prog Tryz.laysE41_ren := {
  mixed := by kernel_rfl
  f41 := ⟨Tryz.f48.name, by decide, Tryz.func48.trans (congrArg some (by kernel_rfl))⟩
  t4 := Tryz.underlying4
  a4 := Tryz.isAgg4
  z4 := Tryz.sizeOf4
  v4 := Tryz.zeroValue4
  t22 := Tryz.underlying29
  a22 := Tryz.isAgg29
  z22 := Tryz.sizeOf29
  v22 := Tryz.zeroValue29 }
end Go.Proofs
/- Functions of package strings, at texts as lists: Trim, TrimLeft, HasPrefix, HasSuffix, Contains, Cut, Split at one byte. -/
namespace Go.Proofs.YtcjfgbcdlcdeaaaGreatDoor
open Go.RowKit
set_option maxRecDepth 100000
set_option linter.unusedVariables false
attribute [local go_sem] ba_get ba_toList ba_extract take_drop_all ByteArray.mk_append_mk

theorem TrimLeft_any (s cs : List UInt8) (w : World) (hcs : cs.length < 4294967281) (ha : ∀ b ∈ cs, b.toNat < 128) :
    Calls Tryz.prog 118 #[.string ⟨s.toArray⟩, .string ⟨cs.toArray⟩] w fun e w' => e = .returned (.string ⟨(s.dropWhile (cs.contains ·)).toArray⟩) ∧ Below w.heap.size w w' :=
  Any.strings_TrimLeft_laid Tryz.lays161 (by kernel_rfl) ⟨s.toArray⟩ ⟨cs.toArray⟩ w hcs (fun j b h => ha b (List.mem_of_getElem? h))

theorem dropWhile_nil_iff {p : UInt8 → Bool} : ∀ {l : List UInt8}, l.dropWhile p = [] ↔ l.all p = true
  | [] => by simp
  | x :: l => by
    have ih := dropWhile_nil_iff (p := p) (l := l)
    by_cases h : p x = true
    · simp only [List.dropWhile_cons, h, if_true, List.all_cons, Bool.true_and]; exact ih
    · simp [h]
/-- 'strings.Trim(s, cs) == ""'. -/
theorem trimS_nil {l cs : List UInt8} : Lib.trimS l cs = [] ↔ l.all (cs.contains ·) = true := by
  unfold Lib.trimS Lib.trimLeftS Lib.trimRightS
  rw [dropWhile_nil_iff]
  have hsp : l.reverse.takeWhile (cs.contains ·) ++ l.reverse.dropWhile (cs.contains ·) = l.reverse := List.takeWhile_append_dropWhile
  have htk := takeWhile_all (p := fun x => cs.contains x) l.reverse
  constructor
  · intro h
    rw [List.all_eq_true] at h htk ⊢
    intro x hx
    have hx' : x ∈ l.reverse := List.mem_reverse.2 hx
    rw [← hsp] at hx'
    rcases List.mem_append.1 hx' with hx' | hx'
    · exact htk x hx'
    · exact h x (List.mem_reverse.2 hx')
  · intro h
    rw [List.all_eq_true] at h ⊢
    intro x hx
    have hx' := List.mem_reverse.1 hx
    exact h x (List.mem_reverse.1 (by rw [← hsp]; exact List.mem_append_right _ hx'))
theorem Trim_any (s cs : List UInt8) (w : World) (hs : s.length ≤ 9223372036854775807) (hcs : cs.length < 4294967281) (ha : ∀ b ∈ cs, b.toNat < 128) :
    Calls Tryz.prog 158 #[.string ⟨s.toArray⟩, .string ⟨cs.toArray⟩] w fun e w' => (∃ r : List UInt8, e = .returned (.string ⟨r.toArray⟩) ∧ (r = [] ↔ s.all (cs.contains ·) = true)) ∧ Below w.heap.size w w' :=
  (Any.strings_Trim_laid Tryz.lays160 (by kernel_rfl) ⟨s.toArray⟩ ⟨cs.toArray⟩ w hs hcs (fun j b h => ha b (List.mem_of_getElem? h))).mono fun e w' ⟨h1, h2⟩ => ⟨⟨_, h1, trimS_nil⟩, h2⟩

theorem hasPrefix_eq (s p : List UInt8) : Lib.hasPrefix s p = p.isPrefixOf s := by
  unfold Lib.hasPrefix
  first | rfl | simp
theorem HasPrefix_any (s p : List UInt8) (w : World) :
    Calls Tryz.prog 119 #[.string ⟨s.toArray⟩, .string ⟨p.toArray⟩] w fun e w' => e = .returned (.bool (p.isPrefixOf s)) ∧ w = w' :=
  (Any.strings_HasPrefix Tryz.lays99 ⟨s.toArray⟩ ⟨p.toArray⟩ w).mono fun e w' ⟨h1, h2⟩ => ⟨by rw [h1, hasPrefix_eq], h2.symm⟩
theorem HasSuffix_any (s p : List UInt8) (w : World) (hs : s.length ≤ 9223372036854775807) :
    Calls Tryz.prog 120 #[.string ⟨s.toArray⟩, .string ⟨p.toArray⟩] w fun e w' => e = .returned (.bool (Lib.hasSuffix s p)) ∧ w = w' :=
  (Any.strings_HasSuffix Tryz.lays100 ⟨s.toArray⟩ ⟨p.toArray⟩ w hs).mono fun e w' ⟨h1, h2⟩ => ⟨h1, h2.symm⟩

/-! ### the first place of a byte -/
theorem indexByte_cases (s : List UInt8) (c : UInt8) : (c ∉ s ∧ Lib.indexByte s c = -1) ∨ ∃ p t, s = p ++ c :: t ∧ c ∉ p ∧ Lib.indexByte s c = (p.length : Int) := by
  induction s with
  | nil => exact .inl ⟨by simp, rfl⟩
  | cons x s ih =>
    by_cases hx : x = c
    · exact .inr ⟨[], s, by simp [hx], by simp, by simp [Lib.indexByte, hx]⟩
    · have hb : (x == c) = false := by simpa using hx
      rcases ih with ⟨hn, e⟩ | ⟨p, t, es, hp, e⟩
      · exact .inl ⟨by simp; exact ⟨fun h => hx h.symm, hn⟩, by simp [Lib.indexByte, hb, e]⟩
      · refine .inr ⟨x :: p, t, by simp [es], by simp; exact ⟨fun h => hx h.symm, hp⟩, ?_⟩
        have : ¬ (p.length : Int) = -1 := by omega
        simp [Lib.indexByte, hb, e, this]
theorem Index_one (s : List UInt8) (c : UInt8) (w : World) :
    Calls Tryz.prog 175 #[.string ⟨s.toArray⟩, .string ⟨#[c]⟩] w fun e w' => e = .returned (.int .i64 (Lib.indexByte s c)) ∧ w = w' :=
  (Any.strings_Index_one Tryz.lays143 ⟨s.toArray⟩ c w).mono fun e w' ⟨h1, h2⟩ => ⟨h1, h2.symm⟩
theorem Index_lite (s : List UInt8) (c : UInt8) (w : World) :
    Calls Tryz.prog 174 #[.string ⟨s.toArray⟩, .string ⟨#[c]⟩] w fun e w' => e = .returned (.int .i64 (Lib.indexByte s c)) ∧ w = w' :=
  (Any.stringslite_Index_one Tryz.lays219 ⟨s.toArray⟩ c w).mono fun e w' ⟨h1, h2⟩ => ⟨h1, h2.symm⟩
theorem Count_one (s : List UInt8) (c : UInt8) (w : World) :
    Calls Tryz.prog 194 #[.string ⟨s.toArray⟩, .string ⟨#[c]⟩] w fun e w' => e = .returned (.int .i64 ((s.count c : Nat) : Int)) ∧ w = w' :=
  (Any.strings_Count_one Tryz.lays138 ⟨s.toArray⟩ c w).mono fun e w' ⟨h1, h2⟩ => ⟨h1, h2.symm⟩
/-- 'strings.Contains(s, "c")'. -/
theorem Contains_any (s : List UInt8) (c : UInt8) (w : World) :
    Calls Tryz.prog 145 #[.string ⟨s.toArray⟩, .string ⟨#[c]⟩] w fun e w' => e = .returned (.bool (decide (c ∈ s))) ∧ w = w' :=
  (Any.strings_Contains_one Tryz.lays144 ⟨s.toArray⟩ c w).mono fun e w' ⟨h1, h2⟩ => ⟨by
    rw [h1]
    refine ret1 (vbool ?_)
    show decide (0 ≤ Lib.indexByte s c) = _
    rw [decide_eq_decide]
    rcases indexByte_cases s c with ⟨hn, e⟩ | ⟨p, t, es, hp, e⟩
    · rw [e]; exact ⟨fun h => by omega, fun h => absurd h hn⟩
    · rw [e]; exact ⟨fun _ => by rw [es]; simp, fun _ => by omega⟩, h2.symm⟩

/-! ### Cut -/
def cutV (r : List UInt8 × List UInt8 × Bool) : Value := .tuple #[.string ⟨r.1.toArray⟩, .string ⟨r.2.1.toArray⟩, .bool r.2.2]

set_option maxHeartbeats 1000000 in
theorem Cut_lite (s : List UInt8) (c : UInt8) (w : World) (hs : s.length ≤ 4294967280) :
    Calls Tryz.prog 144 #[.string ⟨s.toArray⟩, .string ⟨#[c]⟩] w fun e w' => e = .returned (cutV (cutL c s)) ∧ ∃ k, w' = w.drewN k := by
  rcases indexByte_cases s c with ⟨hn, e⟩ | ⟨p, t, es, hp, e⟩
  · have Hc := Lib.hid (cutL_no hn)
    have Hi := Lib.hid (fun W => Index_lite s c W)
    rw [e] at Hi
    clear hn e
    go_enter Tryz.func144, Tryz.ntmps144
    go_wp2_with fail
    refine (Hi.out _).mono ?_
    rintro e w' ⟨rfl, rfl⟩
    go_wp2_with fail
    go_ret3
    exact ⟨by rw [Hc.out]; rfl, 0, rfl⟩
  · have Hc := Lib.hid (show cutL c s = (p, t, true) by rw [es]; exact cutL_app hp)
    have Hi := Lib.hid (fun W => Index_lite s c W)
    rw [e] at Hi
    have hl : s.length = p.length + 1 + t.length := by rw [es]; simp; omega
    have h1 : s.take p.length = p := by rw [es]; simp
    have h2 : s.drop (p.length + 1) = t := by
      rw [es, show p ++ c :: t = (p ++ [c]) ++ t by simp]
      exact List.drop_left' (by simp)
    have k1 : IntKind.i64.wrap ((p.length : Int) + 1) = (p.length : Int) + 1 := IntWalk.i64_in _ (by omega)
    have k2 : ((p.length : Int) + 1).toNat = p.length + 1 := by omega
    have k3 : (0 : Int) ≤ (p.length : Int) + 1 := by omega
    have k4 : (p.length : Int) + 1 ≤ (s.length : Int) := by omega
    have k5 : (p.length : Int) ≤ (s.length : Int) := by omega
    have k6 : (0 : Int) ≤ (p.length : Int) := by omega
    have H1 := Lib.hid h1
    have H2 := Lib.hid h2
    clear e es hl h1 h2 hp
    go_enter Tryz.func144, Tryz.ntmps144
    go_wp2_with fail
    refine (Hi.out _).mono ?_
    rintro e w' ⟨rfl, rfl⟩
    go_wp2_with fail
    go_quiet (fail)
    go_wp2
    go_ret3
    exact ⟨by rw [Hc.out]; exact ret3 (vstr H1.out) (vstr H2.out) rfl, _, rfl⟩
theorem Cut_any (s : List UInt8) (c : UInt8) (w : World) (hs : s.length ≤ 4294967280) :
    Calls Tryz.prog 109 #[.string ⟨s.toArray⟩, .string ⟨#[c]⟩] w fun e w' => e = .returned (cutV (cutL c s)) ∧ ∃ k, w' = w.drewN k := by
  go_enter Tryz.func109, Tryz.ntmps109
  go_wp2_with fail
  refine (Cut_lite s c _ hs).mono ?_
  rintro e w' ⟨rfl, k, rfl⟩
  unfold cutV
  go_wp2_with fail
  go_ret3
  exact ⟨rfl, k, rfl⟩

/-! ### Split -/
theorem splitL_count (c : UInt8) : ∀ s : List UInt8, (splitL c s).length = s.count c + 1
  | [] => rfl
  | x :: s => by
    have ih := splitL_count c s
    simp only [splitL]
    by_cases h : x = c
    · rw [if_pos h, h]; simp [ih]
    · rw [if_neg h]
      have e : List.count c (x :: s) = List.count c s := List.count_cons_of_ne h
      rw [e]
      cases hs : splitL c s with
      | nil => rw [hs] at ih; simp at ih
      | cons p ps => rw [hs] at ih; simp at ih ⊢; exact ih
theorem set_mid' (A B : List Value) (k : Nat) (x y : Value) (h : A.length = k) : (A ++ x :: B).set k y = A ++ y :: B := by
  subst h
  rw [List.set_append, if_neg (by omega)]; simp

/-- What is stored at the next place of a row of texts. -/
theorem row_next {w : World} {base k n g cap : Nat} {ps : List (List UInt8)} {ys : List Value} (h : w.ownsRow base 9 1 (.slice (some ⟨g, 0, none⟩) n cap) n (scells ps ++ ys)) (hk : ps.length = k) (hlt : k < n) (s : List UInt8) :
    ∃ zs, (w.setCell ⟨g, k, none⟩ (.string ⟨s.toArray⟩)).ownsRow base 9 1 (.slice (some ⟨g, 0, none⟩) n cap) n (scells (ps ++ [s]) ++ zs) ∧ w.grownBy (w.setCell ⟨g, k, none⟩ (.string ⟨s.toArray⟩)) (some g) ∧ w.frozen? ⟨g, k, none⟩ = false ∧ ∃ u, w.cell? ⟨g, k, none⟩ = some u := by
  have hl : (scells ps).length = k := by simp [scells, hk]
  have h1 := h.1
  rw [List.length_append, hl] at h1
  obtain ⟨y, zs, rfl⟩ : ∃ y zs, ys = y :: zs := by
    cases ys with
    | nil => simp at h1; omega
    | cons y zs => exact ⟨y, zs, rfl⟩
  have hst := h.stored k (.string ⟨s.toArray⟩)
  rw [set_mid' _ _ _ _ _ hl] at hst
  have hc := h.cellAt k (by omega)
  rw [List.getElem?_append_right (by omega), hl] at hc
  simp at hc
  exact ⟨zs, by rw [scells_snoc, List.append_assoc]; exact hst.1, hst.2, h.frozenAt k, y, hc⟩

theorem row_cut {w : World} {base k n g cap : Nat} {ps : List (List UInt8)} {ys : List Value} (h : w.ownsRow base 9 1 (.slice (some ⟨g, 0, none⟩) n cap) n (scells ps ++ ys)) (hk : ps.length = k) (hle : k ≤ n) :
    w.ownsRow base 9 1 (.slice (some ⟨g, 0, none⟩) k cap) k (scells ps) := by
  rcases h.2 with ⟨e, _⟩ | ⟨g', cap', cur, e, hb, hh, hnc, hcm, hcs, htk⟩
  · cases e
  · injection e with e1 e2 e3
    injection e1 with e1
    injection e1 with e1
    subst e1; subst e3
    refine ⟨by simp [scells, hk], .inr ⟨g, cap, cur, rfl, hb, hh, by omega, hcm, hcs, ?_⟩⟩
    have hl : (scells ps).length = k := by simp [scells, hk]
    have : (cur.toList.take (n * 1)).take (k * 1) = (scells ps ++ ys).take (k * 1) := by rw [htk]
    rw [List.take_take, Nat.min_eq_left (by omega)] at this
    rw [this, List.take_append_of_le_length (by omega), List.take_of_length_le (by omega)]

set_option maxHeartbeats 2000000 in
theorem genSplit_any (s : List UInt8) (c : UInt8) (w : World) (hs : s.length ≤ 4000000) :
    Calls Tryz.prog 176 #[.string ⟨s.toArray⟩, .string ⟨#[c]⟩, .int .i64 0, .int .i64 (-1)] w fun e w' =>
      ∃ v, e = .returned v ∧ w'.ownsRow w.heap.size 9 1 v (splitL c s).length (scells (splitL c s)) ∧ Below w.heap.size w w' := by
  obtain ⟨i0, hi, hz0, hz1, hz2⟩ := info_parts Tryz.infoStr
  have hcnt : s.count c ≤ s.length := List.count_le_length
  have Hn := Lib.hid (splitL_count c s)
  have H0 := Lib.hid (show splitL c s = [] ++ splitL c s from rfl)
  go_enter Tryz.func176, Tryz.ntmps176
  go_wp2_with fail
  refine (Count_one s c w).mono ?_
  rintro e w' ⟨rfl, rfl⟩
  obtain ⟨n, hn⟩ : ∃ n, n = s.count c := ⟨_, rfl⟩
  have HN := Lib.hid hn
  rw [← hn] at hcnt ⊢
  clear hn
  have hmin : min ((n : Int) + 1) ((s.length : Int) + 1) = (n : Int) + 1 := by omega
  go_wp2_with (at_make; refine wpList_make_full _ rfl _ _ 58 rfl w.heap.size 9 i0 (.string ⟨#[]⟩) 1 Tryz.underlying58 hi hz0 hz1 .i64 .i64 _ _ (n + 1) rfl rfl (by omega) (by omega) (by rw [hz2]; omega) (by unfold maxLen; omega) (Nat.le_refl _) ?_; intro w0 hown0 hgrow0)
  go_loopw [0, 10] (fun x i wr => ∃ (ps : List (List UInt8)) (r : List UInt8) (k : Nat), i = .int .i64 k ∧ k ≤ n ∧ x = .string ⟨r.toArray⟩ ∧ r.length ≤ s.length ∧ ps.length = k ∧ Hid (splitL c s = ps ++ splitL c r) ∧ Hid (r.count c + k = n) ∧
      Hid (∃ ys, wr.ownsRow w.heap.size 9 1 (.slice (some ⟨w.heap.size, 0, none⟩) (n + 1) (n + 1)) (n + 1) (scells ps ++ ys)) ∧ Hid (Below w.heap.size w wr)) (fun _ i _ => n - (intOf i).toNat)
  case atStart => exact ⟨[], s, 0, rfl, Nat.zero_le _, rfl, Nat.le_refl _, rfl, H0.out, by show _ = _; have := HN.out; omega, ⟨_, hown0⟩, (Below.refl _ _).grown hgrow0 (Nat.le_refl _) (by simp)⟩
  case round =>
    obtain ⟨ps, r, k, rfl, hk, rfl, hr, hps, hsp, hct, hown, hb⟩ := hrel
    have Hps := Lib.hid hps
    clear hps
    by_cases hlt : k < n
    · have hmem : c ∈ r := by
        have := hct.out
        exact List.count_pos_iff.1 (by omega)
      have hix : ∃ p t, r = p ++ c :: t ∧ c ∉ p ∧ Lib.indexByte r c = (p.length : Int) := by
        rcases indexByte_cases r c with ⟨h, _⟩ | h
        · exact absurd hmem h
        · exact h
      obtain ⟨p, t, er, hp, e⟩ := hix
      have Hi := Lib.hid (fun W => Index_one r c W)
      rw [e] at Hi
      have hl : r.length = p.length + 1 + t.length := by rw [er]; simp; omega
      have H1 := Lib.hid (show r.take p.length = p by rw [er]; simp)
      have H2 := Lib.hid (show r.drop (p.length + 1) = t by
        rw [er, show p ++ c :: t = (p ++ [c]) ++ t by simp]
        exact List.drop_left' (by simp))
      have Hsp := Lib.hid (show splitL c s = (ps ++ [p]) ++ splitL c t by rw [hsp.out, er, splitL_app c p t hp]; simp)
      have Hct := Lib.hid (show t.count c + (k + 1) = n by
        have h0 := hct.out
        have h1 : p.count c = 0 := List.count_eq_zero.2 hp
        rw [er, List.count_append, h1, List.count_cons_self] at h0
        omega)
      obtain ⟨ys, hown'⟩ := hown.out
      obtain ⟨zs, n1, n2, n3, u, n4⟩ := row_next hown' Hps.out (by omega : k < n + 1) p
      have N1 := Lib.hid (show (wr.setCell ⟨w.heap.size, k, none⟩ (.string ⟨(r.take p.length).toArray⟩)).ownsRow w.heap.size 9 1 (.slice (some ⟨w.heap.size, 0, none⟩) (n + 1) (n + 1)) (n + 1) (scells (ps ++ [p]) ++ zs) by rw [H1.out]; exact n1)
      have N2 := Lib.hid (show Below w.heap.size w (wr.setCell ⟨w.heap.size, k, none⟩ (.string ⟨(r.take p.length).toArray⟩)) from hb.out.setCell (p := ⟨w.heap.size, k, none⟩) (Nat.le_refl _) _)
      have k1 : (0 : Int) ≤ (p.length : Int) := by omega
      have k2 : (p.length : Int) ≤ (r.length : Int) := by omega
      have k3 : p.length + 1 ≤ r.length := by omega
      clear e er hp hmem hown' n1 n2 hl
      go_wp2_with fail
      refine (Hi.out _).mono ?_
      rintro e w' ⟨rfl, rfl⟩
      go_wp2_with fail
      go_roundw
      case rel => exact ⟨ps ++ [p], t, k + 1, by go_num, by omega, vstr H2.out, by have := congrArg List.length H2.out; simp at this; omega, by rw [List.length_append, Hps.out]; rfl, Hsp.out, Hct.out, ⟨zs, N1.out⟩, N2.out⟩
      case measure => simp [intOf]; omega
    · obtain rfl : k = n := by omega
      have hno : c ∉ r := by
        have := hct.out
        exact List.count_eq_zero.1 (by omega)
      have Hsp := Lib.hid (show splitL c s = ps ++ [r] by rw [hsp.out, splitL_plain c r hno])
      obtain ⟨ys, hown'⟩ := hown.out
      obtain ⟨zs, n1, n2, n3, u, n4⟩ := row_next hown' Hps.out (by omega : k < k + 1) r
      have N1 := Lib.hid (row_cut n1 (by rw [List.length_append, Hps.out]; rfl) (Nat.le_refl _))
      have N2 := Lib.hid (show Below w.heap.size w (wr.setCell ⟨w.heap.size, k, none⟩ (.string ⟨r.toArray⟩)) from hb.out.setCell (p := ⟨w.heap.size, k, none⟩) (Nat.le_refl _) _)
      clear hown' n1 n2 hno
      go_wp2_with fail
      go_ret
      refine ⟨_, rfl, ?_, N2.out⟩
      have e1 : (splitL c s).length = k + 1 := by rw [Hsp.out, List.length_append, Hps.out]; rfl
      rw [e1, Hsp.out]
      exact N1.out

theorem Split_any (s : List UInt8) (c : UInt8) (w : World) (hs : s.length ≤ 4000000) :
    Calls Tryz.prog 146 #[.string ⟨s.toArray⟩, .string ⟨#[c]⟩] w fun e w' =>
      ∃ v, e = .returned v ∧ w'.ownsRow w.heap.size 9 1 v (splitL c s).length (scells (splitL c s)) ∧ Below w.heap.size w w' := by
  go_enter Tryz.func146, Tryz.ntmps146
  go_wp2_with fail
  refine (genSplit_any s c _ hs).mono ?_
  rintro e w' ⟨v, rfl, ho, hb⟩
  have Ho := Lib.hid ho
  have Hb := Lib.hid hb
  clear ho hb
  go_wp2_with fail
  go_ret
  exact ⟨_, rfl, Ho.out, Hb.out⟩
end Go.Proofs.YtcjfgbcdlcdeaaaGreatDoor
/- Names and kinds of the reference: l6In, l2Name, KindOk, l2Core, l2Ref. -/
namespace Go.Proofs.YtcjfgbcdlcdeaaaGreatDoor
open Go.RowKit
set_option maxRecDepth 100000
set_option linter.unusedVariables false
attribute [local go_sem] ba_get ba_toList ba_extract take_drop_all ByteArray.mk_append_mk

theorem byte_ne {c d : UInt8} (h : c ≠ d) : ((c.toNat : Int) == (d.toNat : Int)) = false := by
  rw [beq_eq_false_iff_ne]; intro e; exact h (UInt8.toNat_inj.1 (by omega))
theorem byte_eq {c d : UInt8} (h : c = d) : ((c.toNat : Int) == (d.toNat : Int)) = true := by rw [h]; simp

theorem l6In_any (n a b : Int) (w : World) :
    Calls Tryz.prog 97 #[.int .i64 n, .int .i64 a, .int .i64 b] w fun e w' => e = .returned (.bool (decide (a ≤ n) && decide (n ≤ b))) ∧ w = w' := by
  go_enter Tryz.func97, Tryz.ntmps97
  by_cases h1 : a ≤ n
  · have t1 : decide (a ≤ n) = true := by simpa using h1
    rw [t1]
    go_wp2
    go_ret
    exact ⟨rfl, rfl⟩
  · have t1 : decide (a ≤ n) = false := by simpa using h1
    rw [t1]
    go_wp2
    go_ret
    exact ⟨rfl, rfl⟩

set_option maxHeartbeats 400000 in
theorem l2Name_any (s : List UInt8) (w : World) (hs : s.length ≤ 9223372036854775807) :
    Calls Tryz.prog 149 #[.string ⟨s.toArray⟩] w fun e w' => e = .returned (.bool (nameOk s)) ∧ w = w' := by
  go_enter Tryz.func149, Tryz.ntmps149
  go_wp2
  go_loop [3] (fun i => ∃ k : Nat, k ≤ s.length ∧ i = .int .i64 k ∧ Hid (∀ c ∈ s.take k, isLow c = true)) (fun i => s.length - (intOf i).toNat)
  case atStart => exact ⟨0, Nat.zero_le _, rfl, by intro c hc; simp at hc⟩
  case round =>
    obtain ⟨k, hk, rfl, hin⟩ := hrel
    by_cases hlt : k < s.length
    · have hc : (s[k]).toNat < 256 := (s[k]).toNat_lt
      have Hts := Lib.hid (take_snoc s k hlt)
      have Hm := Lib.hid (List.getElem_mem hlt)
      by_cases h1 : isLow s[k] = true
      · have h2 := isLow_iff.1 h1
        obtain ⟨h3, h4⟩ := h2
        have H1 := Lib.hid h1
        clear h1
        go_wp2
        go_round
        case rel =>
          refine ⟨k + 1, by omega, by go_num, ?_⟩
          intro c hc
          rw [Hts.out] at hc
          rcases List.mem_append.1 hc with hc | hc
          · exact hin.out c hc
          · simp at hc; subst hc; exact H1.out
        case measure => simp [intOf]; omega
      · have hno : nameOk s = false := by
          cases hh : nameOk s with
          | false => rfl
          | true => exact absurd ((nameOk_iff.1 hh).2.2 _ Hm.out) h1
        have Hno := Lib.hid hno
        have h2 : (s[k]).toNat < 97 ∨ 122 < (s[k]).toNat := by
          rcases Nat.lt_or_ge (s[k]).toNat 97 with h | h
          · exact .inl h
          · rcases Nat.lt_or_ge 122 (s[k]).toNat with h' | h'
            · exact .inr h'
            · exact absurd (isLow_iff.2 ⟨h, h'⟩) h1
        clear h1 hno
        rcases h2 with h2 | h2
        · go_wp2
          go_ret
          exact ⟨ret1 (vbool Hno.out.symm), rfl⟩
        · have h3 : 97 ≤ (s[k]).toNat := by omega
          go_wp2
          go_ret
          exact ⟨ret1 (vbool Hno.out.symm), rfl⟩
    · have hfin : (decide ((1 : Int) ≤ (s.length : Int)) && decide ((s.length : Int) ≤ 3)) = nameOk s := by
        have hall : s.all isLow = true := List.all_eq_true.2 (fun c hc => hin.out c (by rw [List.take_of_length_le (by omega)]; exact hc))
        unfold nameOk
        rw [hall, Bool.and_true]
        congr 1 <;> · rw [decide_eq_decide]; omega
      have Hfin := Lib.hid hfin
      clear hfin
      go_wp2_with fail
      refine (l6In_any _ _ _ _).mono ?_
      rintro e w' ⟨rfl, rfl⟩
      go_wp2_with fail
      go_ret
      exact ⟨ret1 (vbool Hfin.out), rfl⟩

/-- A kind by its first byte. -/
theorem kindL_sign (c : UInt8) (t : List UInt8) (hc : isSign c = true) : (kindL (c :: t)).isSome = (decide (t.length < 12) && (kindL t).isSome) := by
  unfold kindL
  simp only [List.dropWhile_cons, List.takeWhile_cons, hc, if_true]
  by_cases h : 12 < (c :: t).length
  · rw [if_pos h]
    simp at h
    have : ¬ t.length < 12 := by omega
    simp [this]
  · rw [if_neg h]
    simp at h
    have h2 : ¬ 12 < t.length := by omega
    have : t.length < 12 := by omega
    rw [if_neg h2]
    simp only [this, decide_true, Bool.true_and]
    by_cases h3 : t.dropWhile isSign = [110] ∨ t.dropWhile isSign = [116] ∨ t.dropWhile isSign = [102]
    · rw [if_pos h3, if_pos h3]; rfl
    · rw [if_neg h3, if_neg h3]
      by_cases h4 : (t.dropWhile isSign).head? = some 64 ∧ (t.dropWhile isSign).getLast? = some 59 ∧ nameOk ((t.dropWhile isSign).drop 1).dropLast = true
      · rw [if_pos h4, if_pos h4]; rfl
      · rw [if_neg h4, if_neg h4]
theorem kindL_at (t : List UInt8) : (kindL (64 :: t)).isSome = (decide (t.length < 12) && decide ((64 :: t).getLast? = some 59) && nameOk t.dropLast) := by
  unfold kindL
  have h64 : isSign 64 = false := by decide
  simp only [List.dropWhile_cons, List.takeWhile_cons, h64]
  by_cases h : 12 < (64 :: t).length
  · rw [if_pos h]
    simp at h
    have : ¬ t.length < 12 := by omega
    simp [this]
  · rw [if_neg h]
    simp at h
    have : t.length < 12 := by omega
    simp [this]
    split
    · rename_i hh; simp [hh]
    · rename_i hh
      simp only [Option.isSome_none]
      cases hn : nameOk t.dropLast with
      | false => simp
      | true => simp [hn] at hh; simp [hh]
theorem kindL_other (c : UInt8) (t : List UInt8) (h1 : isSign c = false) (h2 : c ≠ 64) : (kindL (c :: t)).isSome = (decide (c :: t = [110]) || decide (c :: t = [116]) || decide (c :: t = [102])) := by
  unfold kindL
  simp only [List.dropWhile_cons, List.takeWhile_cons, h1]
  by_cases h : 12 < (c :: t).length
  · rw [if_pos h]
    simp at h
    have e : t ≠ [] := by rintro rfl; simp at h
    simp [e]
  · rw [if_neg h]
    by_cases h3 : c :: t = [110] ∨ c :: t = [116] ∨ c :: t = [102]
    · simp only [Bool.false_eq_true, if_false]
      rw [if_pos h3]
      rcases h3 with h3 | h3 | h3 <;> simp [h3]
    · simp only [Bool.false_eq_true, if_false]
      rw [if_neg h3, if_neg (by simp [h2])]
      simp only [not_or] at h3
      simp [h3]

set_option maxHeartbeats 400000 in
theorem KindOk_any : ∀ (n : Nat) (s : List UInt8) (w : World), s.length ≤ n → s.length ≤ 9223372036854775807 →
    Calls Tryz.prog 132 #[.string ⟨s.toArray⟩] w fun e w' => e = .returned (.bool (kindL s).isSome) ∧ w = w' := by
  intro n
  induction n with
  | zero =>
    intro s w hn hs
    obtain rfl : s = [] := List.eq_nil_of_length_eq_zero (by omega)
    go_enter Tryz.func132, Tryz.ntmps132
    go_wp2_with fail
    go_ret
    exact ⟨rfl, rfl⟩
  | succ n ih =>
    intro s w hn hs
    have Ih := Lib.hid ih
    clear ih
    by_cases h12 : 12 < s.length
    · have Hf := Lib.hid (show (kindL s).isSome = false by unfold kindL; rw [if_pos h12]; rfl)
      go_enter Tryz.func132, Tryz.ntmps132
      go_wp2_with fail
      go_ret
      exact ⟨ret1 (vbool Hf.out.symm), rfl⟩
    · cases s with
      | nil =>
        go_enter Tryz.func132, Tryz.ntmps132
        go_wp2_with fail
        go_ret
        exact ⟨rfl, rfl⟩
      | cons c t =>
        have hlt : t.length < 12 := by simp at h12; omega
        have hn' : t.length ≤ n := by simp at hn; omega
        have hc := c.toNat_lt
        by_cases h91 : c = 91
        · have Hf := Lib.hid (show (kindL (c :: t)).isSome = (kindL t).isSome by rw [kindL_sign c t (by rw [h91]; decide)]; simp [hlt])
          have e1 : c.toNat = 91 := by rw [h91]; rfl
          have t1 : ((c.toNat : Int) == 91) = true := by simp [e1]
          clear h91 e1
          go_enter Tryz.func132, Tryz.ntmps132
          go_wp2_with fail
          refine (Ih.out t _ hn' (by omega)).mono ?_
          rintro e w' ⟨rfl, rfl⟩
          go_wp2_with fail
          go_ret
          exact ⟨ret1 (vbool Hf.out.symm), rfl⟩
        · have t1 : ((c.toNat : Int) == 91) = false := byte_ne h91
          by_cases h63 : c = 63
          · have Hf := Lib.hid (show (kindL (c :: t)).isSome = (kindL t).isSome by rw [kindL_sign c t (by rw [h63]; decide)]; simp [hlt])
            have e1 : c.toNat = 63 := by rw [h63]; rfl
            have t2 : ((c.toNat : Int) == 63) = true := by simp [e1]
            clear h63 h91 e1
            go_enter Tryz.func132, Tryz.ntmps132
            go_wp2_with fail
            refine (Ih.out t _ hn' (by omega)).mono ?_
            rintro e w' ⟨rfl, rfl⟩
            go_wp2_with fail
            go_ret
            exact ⟨ret1 (vbool Hf.out.symm), rfl⟩
          · have t2 : ((c.toNat : Int) == 63) = false := byte_ne h63
            by_cases h64 : c = 64
            · have e1 : c.toNat = 64 := by rw [h64]; rfl
              have t3 : ((c.toNat : Int) == 64) = true := by simp [e1]
              rcases snoc_cases t with rfl | ⟨u, d, rfl⟩
              · have Hf := Lib.hid (show (kindL [c]).isSome = false by rw [h64]; decide)
                have t4 : ((c.toNat : Int) == 59) = false := by simp [e1]
                clear h64 h63 h91 e1
                go_enter Tryz.func132, Tryz.ntmps132
                go_wp2_with fail
                go_ret
                exact ⟨ret1 (vbool Hf.out.symm), rfl⟩
              · have hk := kindL_at (u ++ [d])
                have hl : (c :: (u ++ [d])).getLast? = some d := by
                  rw [show c :: (u ++ [d]) = (c :: u) ++ [d] from rfl, List.getLast?_append]; rfl
                rw [← h64, hl, List.dropLast_concat] at hk
                have hd := d.toNat_lt
                simp at hlt
                have hgd : ∀ h, (c :: (u ++ [d]))[u.length + 1]'h = d := by
                  intro h; simp
                have hsl : (List.take u.length (u ++ [d])) = u := by simp
                by_cases h59 : d = 59
                · have e2 : d.toNat = 59 := by rw [h59]; rfl
                  have t4 : ((d.toNat : Int) == 59) = true := by simp [e2]
                  have Hf := Lib.hid (show (kindL (c :: (u ++ [d]))).isSome = nameOk u by rw [hk, h59]; simp; omega)
                  clear h64 h63 h91 e1 hk hl h59 e2
                  go_enter Tryz.func132, Tryz.ntmps132
                  go_wp2_with fail
                  refine (l2Name_any u _ (by omega)).mono ?_
                  rintro e w' ⟨rfl, rfl⟩
                  go_wp2_with fail
                  go_ret
                  exact ⟨ret1 (vbool Hf.out.symm), rfl⟩
                · have t4 : ((d.toNat : Int) == 59) = false := byte_ne h59
                  have Hf := Lib.hid (show (kindL (c :: (u ++ [d]))).isSome = false by rw [hk]; simp [h59])
                  clear h64 h63 h91 e1 hk hl h59
                  go_enter Tryz.func132, Tryz.ntmps132
                  go_wp2_with fail
                  go_ret
                  exact ⟨ret1 (vbool Hf.out.symm), rfl⟩
            · have t3 : ((c.toNat : Int) == 64) = false := byte_ne h64
              have hk := kindL_other c t (by simp [isSign, h91, h63]) h64
              have Hk := Lib.hid hk
              clear hk h64 h63 h91
              cases t with
              | cons x t =>
                have hl2 : t.length + 1 + 1 ≤ 12 := by simp at hlt; omega
                have Hf := Lib.hid (show (kindL (c :: x :: t)).isSome = false by rw [Hk.out]; simp)
                clear Hk
                go_enter Tryz.func132, Tryz.ntmps132
                go_wp2_with fail
                all_goals
                  go_ret
                  exact ⟨ret1 (vbool (by rw [Hf.out])), rfl⟩
              | nil =>
                by_cases g1 : c = 110
                · subst g1
                  go_enter Tryz.func132, Tryz.ntmps132
                  go_wp2_with fail
                  go_ret
                  exact ⟨rfl, rfl⟩
                · by_cases g2 : c = 116
                  · subst g2
                    go_enter Tryz.func132, Tryz.ntmps132
                    go_wp2_with fail
                    go_ret
                    exact ⟨rfl, rfl⟩
                  · by_cases g3 : c = 102
                    · subst g3
                      go_enter Tryz.func132, Tryz.ntmps132
                      go_wp2_with fail
                      go_ret
                      exact ⟨rfl, rfl⟩
                    · have Hf := Lib.hid (show (kindL [c]).isSome = false by rw [Hk.out]; simp [g1, g2, g3])
                      go_enter Tryz.func132, Tryz.ntmps132
                      go_wp2_with fail
                      go_ret
                      exact ⟨ret1 (vbool (by rw [Hf.out]; simp [g1, g2, g3])), rfl⟩

/-- The length of a string in a slot: a loop's measure. -/
def strLen : Value → Nat
  | .string b => b.size
  | _ => 0
theorem strLen_mk (l : List UInt8) : strLen (.string ⟨l.toArray⟩) = l.length := rfl

set_option maxHeartbeats 400000 in
/-- The part of a kind behind its signs. -/
theorem l2Core_any (k : Kd) (w : World) (hk : k.signs.all isSign = true) (hb : ∃ c t, coreB k = c :: t ∧ isSign c = false) (hs : (kdB k).length ≤ 9223372036854775807) :
    Calls Tryz.prog 134 #[.string ⟨(kdB k).toArray⟩] w fun e w' => e = .returned (.string ⟨(coreB k).toArray⟩) ∧ w = w' := by
  obtain ⟨d, u, hcu, hd⟩ := hb
  have hlen : (kdB k).length = k.signs.length + (u.length + 1) := by unfold kdB; rw [hcu]; simp
  unfold kdB
  rw [hcu]
  generalize k.signs = g at hk hlen
  clear hcu
  have hd1 : d ≠ 91 := by rintro rfl; revert hd; decide
  have hd2 : d ≠ 63 := by rintro rfl; revert hd; decide
  have d1 : ((d.toNat : Int) == 91) = false := byte_ne hd1
  have d2 : ((d.toNat : Int) == 63) = false := byte_ne hd2
  have hdl := d.toNat_lt
  clear hd hd1 hd2
  have hs2 : g.length + u.length + 1 ≤ 9223372036854775807 := by omega
  have Hk := Lib.hid (List.all_eq_true.1 hk)
  clear hs hlen hk
  go_enter Tryz.func134, Tryz.ntmps134
  go_wp2_with fail
  go_loop [0] (fun x => ∃ k : Nat, k ≤ g.length ∧ x = .string ⟨(g.drop k ++ d :: u).toArray⟩) (fun x => strLen x)
  case atStart => exact ⟨0, Nat.zero_le _, rfl⟩
  case round =>
    obtain ⟨k, hk, rfl⟩ := hrel
    by_cases hlt : k < g.length
    · have hdr : g.drop k = g[k] :: g.drop (k + 1) := List.drop_eq_getElem_cons hlt
      have hl3 : (g.drop (k + 1)).length ≤ g.length := by simp
      have hsg := Hk.out _ (List.getElem_mem hlt)
      have hc := (g[k]).toNat_lt
      rw [hdr]
      generalize g[k] = c at hsg hc
      have hsg2 : c = 91 ∨ c = 63 := by simpa [isSign] using hsg
      have Hd := Lib.hid hdr
      clear hsg hdr
      rcases hsg2 with h91 | h63
      · have t1 : ((c.toNat : Int) == 91) = true := byte_eq h91
        clear h91
        go_wp2_with fail
        go_round
        case rel => exact ⟨k + 1, by omega, vstr (List.take_of_length_le (by simp))⟩
        case measure => rw [strLen_mk, strLen_mk]; simp
      · have t1 : ((c.toNat : Int) == 91) = false := byte_ne (d := 91) (by rw [h63]; decide)
        have t2 : ((c.toNat : Int) == 63) = true := byte_eq h63
        clear h63
        go_wp2_with fail
        go_round
        case rel => exact ⟨k + 1, by omega, vstr (List.take_of_length_le (by simp))⟩
        case measure => rw [strLen_mk, strLen_mk]; simp
    · rw [List.drop_of_length_le (by omega), List.nil_append]
      go_wp2_with fail
      go_ret
      exact ⟨rfl, rfl⟩

/-- The name of a kind that begins with @. -/
theorem l2Ref_yes (nm : List UInt8) (w : World) (hn : nm.length ≤ 1000) :
    Calls Tryz.prog 133 #[.string ⟨(64 :: (nm ++ [59])).toArray⟩] w fun e w' => e = .returned (.tuple #[.string ⟨nm.toArray⟩, .bool true]) ∧ w = w' := by
  have h1 : (nm ++ [59]).take nm.length = nm := by simp
  go_enter Tryz.func133, Tryz.ntmps133
  go_wp2_with fail
  go_ret2
  exact ⟨rfl, rfl⟩
theorem l2Ref_no (c : UInt8) (t : List UInt8) (w : World) (hc : c ≠ 64) (hn : t.length ≤ 1000) :
    Calls Tryz.prog 133 #[.string ⟨(c :: t).toArray⟩] w fun e w' => e = .returned (.tuple #[.string ⟨#[]⟩, .bool false]) ∧ w = w' := by
  have t1 : ((c.toNat : Int) != 64) = true := by
    have := byte_ne hc
    rw [bne_iff_ne]; intro e
    have h64 : ((64 : UInt8).toNat : Int) = 64 := rfl
    rw [beq_eq_false_iff_ne, h64] at this
    exact this e
  clear hc
  go_enter Tryz.func133, Tryz.ntmps133
  go_wp2_with fail
  go_ret2
  exact ⟨rfl, rfl⟩
end Go.Proofs.YtcjfgbcdlcdeaaaGreatDoor
/- Names, numbers and texts of the program: isName, plainNumber, isText, standing, decimal. -/
namespace Go.Proofs.YtcjfgbcdlcdeaaaGreatDoor
open Go.RowKit
set_option maxRecDepth 100000
set_option linter.unusedVariables false
attribute [local go_sem] ba_get ba_toList ba_extract take_drop_all ByteArray.mk_append_mk

def lowB : List UInt8 := [97, 98, 99, 100, 101, 102, 103, 104, 105, 106, 107, 108, 109, 110, 111, 112, 113, 114, 115, 116, 117, 118, 119, 120, 121, 122]
def txtB : List UInt8 := [97, 98, 99, 100, 101, 102, 103, 104, 105, 106, 107, 108, 109, 110, 111, 112, 113, 114, 115, 116, 117, 118, 119, 120, 121, 122, 48, 49, 50, 51, 52, 53, 54, 55, 56, 57, 32]
theorem all_bytes {p : UInt8 → Bool} (h : ∀ n, n < 256 → p (UInt8.ofNat n) = true) (c : UInt8) : p c = true := by
  have := h c.toNat c.toNat_lt
  rwa [UInt8.ofNat_toNat] at this
theorem lowB_has (c : UInt8) : lowB.contains c = isLow c := by
  have := all_bytes (p := fun c => lowB.contains c == isLow c) (by decide +kernel) c
  simpa using this
theorem txtB_has (c : UInt8) : txtB.contains c = isTxt c := by
  have := all_bytes (p := fun c => txtB.contains c == isTxt c) (by decide +kernel) c
  simpa using this
theorem all_low (s : List UInt8) : s.all (lowB.contains ·) = s.all isLow := by congr 1; funext c; exact lowB_has c
theorem all_txt (s : List UInt8) : s.all (txtB.contains ·) = s.all isTxt := by congr 1; funext c; exact txtB_has c

set_option maxHeartbeats 400000 in
theorem isName_any (s : List UInt8) (w : World) (hs : s.length ≤ 9223372036854775807) :
    Calls Tryz.prog 121 #[.string ⟨s.toArray⟩] w fun e w' => e = .returned (.bool (nameOk s)) ∧ Below w.heap.size w w' := by
  by_cases h1 : 1 ≤ s.length
  · by_cases h3 : s.length ≤ 3
    · have hT := fun W => Trim_any s lowB W hs (by decide) (by decide)
      simp only [all_low] at hT
      have HT := Lib.hid hT
      have hn : nameOk s = s.all isLow := by simp [nameOk, h1, h3]
      have Hn := Lib.hid hn
      clear hn hT
      go_enter Tryz.func121, Tryz.ntmps121
      go_wp2_with fail
      refine (HT.out _).mono ?_
      rintro e w' ⟨⟨r, rfl, hr⟩, hb⟩
      cases r with
      | nil =>
        have Hr := Lib.hid (hr.1 rfl)
        clear hr
        go_wp2_with fail
        go_ret
        exact ⟨ret1 (vbool (by rw [Hn.out, Hr.out])), hb⟩
      | cons x r =>
        have Hr := Lib.hid (show s.all isLow = false by
          cases h : s.all isLow with
          | false => rfl
          | true => exact absurd (hr.2 h) (by simp))
        clear hr
        go_wp2_with fail
        go_ret
        exact ⟨ret1 (vbool (by rw [Hn.out, Hr.out])), hb⟩
    · have Hn := Lib.hid (show nameOk s = false by simp [nameOk, h3])
      go_enter Tryz.func121, Tryz.ntmps121
      go_wp2_with fail
      go_ret
      exact ⟨ret1 (vbool Hn.out.symm), Below.refl _ _⟩
  · have Hn := Lib.hid (show nameOk s = false by simp [nameOk, h1])
    go_enter Tryz.func121, Tryz.ntmps121
    go_wp2_with fail
    go_ret
    exact ⟨ret1 (vbool Hn.out.symm), Below.refl _ _⟩

set_option maxHeartbeats 400000 in
theorem isText_any (s : List UInt8) (w : World) (hs : s.length ≤ 9223372036854775807) :
    Calls Tryz.prog 195 #[.string ⟨s.toArray⟩] w fun e w' => e = .returned (.bool (textOk s)) ∧ Below w.heap.size w w' := by
  by_cases h3 : s.length ≤ 12
  · have hT := fun W => Trim_any s txtB W hs (by decide) (by decide)
    simp only [all_txt] at hT
    have HT := Lib.hid hT
    have hn : textOk s = s.all isTxt := by simp [textOk, h3]
    have Hn := Lib.hid hn
    have t0 : decide ((s.length : Int) ≤ 12) = true := by simp; omega
    clear hn hT
    go_enter Tryz.func195, Tryz.ntmps195
    go_wp2_with fail
    refine (HT.out _).mono ?_
    rintro e w' ⟨⟨r, rfl, hr⟩, hb⟩
    cases r with
    | nil =>
      have Hr := Lib.hid (hr.1 rfl)
      clear hr
      go_wp2_with fail
      go_ret
      exact ⟨ret1 (vbool (by rw [Hn.out, Hr.out])), hb⟩
    | cons x r =>
      have Hr := Lib.hid (show s.all isTxt = false by
        cases h : s.all isTxt with
        | false => rfl
        | true => exact absurd (hr.2 h) (by simp))
      clear hr
      go_wp2_with fail
      go_ret
      exact ⟨ret1 (vbool (by rw [Hn.out, Hr.out])), hb⟩
  · have Hn := Lib.hid (show textOk s = false by simp [textOk, h3])
    have t0 : decide ((s.length : Int) ≤ 12) = false := by simp; omega
    go_enter Tryz.func195, Tryz.ntmps195
    go_wp2_with fail
    go_ret
    exact ⟨ret1 (vbool Hn.out.symm), Below.refl _ _⟩

/-- What plainNumber returns. -/
def pnV (s : List UInt8) (m : Nat) : Value :=
  match decL s with
  | none => .tuple #[.int .i64 0, .bool false]
  | some n => .tuple #[.int .i64 n, .bool (decide (n ≤ m))]
theorem pnV_no {s : List UInt8} {m : Nat} (h : decL s = none) : pnV s m = .tuple #[.int .i64 0, .bool false] := by unfold pnV; rw [h]
theorem pnV_yes {s : List UInt8} {m n : Nat} (h : decL s = some n) : pnV s m = .tuple #[.int .i64 n, .bool (decide (n ≤ m))] := by unfold pnV; rw [h]

theorem valB_take_lt (s : List UInt8) (k : Nat) (hk : k ≤ 6) (h : (s.take k).all isDig = true) : valB (s.take k) ≤ 999999 := by
  have h1 := valB_lt (s.take k).length (s.take k) rfl h
  have h2 : 10 ^ (s.take k).length ≤ 10 ^ 6 := Nat.pow_le_pow_right (by omega) (by simp; omega)
  have e6 : 10 ^ 6 = 1000000 := rfl
  omega

set_option maxHeartbeats 1000000 in
theorem plainNumber_any (s : List UInt8) (m : Nat) (w : World) (hs : s.length ≤ 9223372036854775807) (hm : m ≤ 999999) :
    Calls Tryz.prog 177 #[.string ⟨s.toArray⟩, .int .i64 m] w fun e w' => e = .returned (pnV s m) ∧ w = w' := by
  rcases Nat.lt_or_ge s.length 1 with h1 | h1
  · obtain rfl : s = [] := List.eq_nil_of_length_eq_zero (by omega)
    have Hn := Lib.hid (pnV_no (m := m) (show decL [] = none by rfl))
    go_enter Tryz.func177, Tryz.ntmps177
    go_wp2_with fail
    go_ret2
    exact ⟨by rw [Hn.out]; rfl, rfl⟩
  · rcases Nat.lt_or_ge 6 s.length with h6 | h6
    · have Hn := Lib.hid (pnV_no (m := m) (show decL s = none by unfold decL; rw [if_neg]; rintro ⟨_, h, _⟩; omega))
      go_enter Tryz.func177, Tryz.ntmps177
      go_wp2_with fail
      go_ret2
      exact ⟨by rw [Hn.out]; rfl, rfl⟩
    · have hc0 := (s[0]'(by omega)).toNat_lt
      have h3 : (s[0]'(by omega) = 48 ∧ 1 < s.length) ∨ ((((s[0]'(by omega)).toNat : Int) == 48) = true ∧ s.length ≤ 1) ∨ ((((s[0]'(by omega)).toNat : Int) == 48) = false) := by
        by_cases h : s[0]'(by omega) = 48
        · rcases Nat.lt_or_ge 1 s.length with h' | h'
          · exact .inl ⟨h, h'⟩
          · exact .inr (.inl ⟨byte_eq h, h'⟩)
        · exact .inr (.inr (byte_ne h))
      have hhd : (s.head? ≠ some 48 ∨ s.length = 1) ∨ (s[0]'(by omega) = 48 ∧ 1 < s.length) := by
        rcases h3 with h | ⟨_, h⟩ | h
        · exact .inr h
        · exact .inl (.inr (by omega))
        · refine .inl (.inl ?_)
          rw [List.head?_eq_getElem?, List.getElem?_eq_getElem (by omega)]
          intro e
          injection e with e
          rw [e] at h
          exact absurd h (by decide)
      have Hhd := Lib.hid hhd
      clear hhd
      rcases h3 with ⟨hz, hl⟩ | ⟨t0, hl⟩ | t0
      · have Hn := Lib.hid (pnV_no (m := m) (show decL s = none by
          unfold decL
          rw [if_neg]
          rintro ⟨_, _, _, h | h⟩
          · apply h
            rw [List.head?_eq_getElem?, List.getElem?_eq_getElem (by omega), hz]
          · omega))
        have t0 : (((s[0]'(by omega)).toNat : Int) == 48) = true := byte_eq hz
        have Hz := Lib.hid hz
        go_enter Tryz.func177, Tryz.ntmps177
        go_wp2_with fail
        go_ret2
        exact ⟨by rw [Hn.out]; rfl, rfl⟩
      all_goals
        have Hall : Hid (s.head? ≠ some 48 ∨ s.length = 1) := by
          rcases Hhd.out with h | ⟨e, h⟩
          · exact h
          · exfalso
            first
              | omega
              | (rw [e] at t0; exact absurd t0 (by decide))
        clear Hhd
        go_enter Tryz.func177, Tryz.ntmps177
        go_wp2_with fail
        go_loop [6, 28] (fun x i => ∃ k : Nat, i = .int .i64 k ∧ k ≤ s.length ∧ Hid ((s.take k).all isDig = true) ∧ valB (s.take k) ≤ 999999 ∧ x = .int .i64 ((valB (s.take k) : Nat) : Int)) (fun _ i => s.length - (intOf i).toNat)
        case atStart => exact ⟨0, rfl, Nat.zero_le _, by simp [Hid], by simp [valB], by simp [valB]⟩
        case round =>
          obtain ⟨k, rfl, hk, hdig, hv, rfl⟩ := hrel
          by_cases hlt : k < s.length
          · have hc := (s[k]).toNat_lt
            have Hts := Lib.hid (take_snoc s k hlt)
            by_cases hd : isDig s[k] = true
            · have hd2 := isDig_iff.1 hd
              obtain ⟨d1, d2⟩ := hd2
              have hdig2 : (s.take (k + 1)).all isDig = true := by
                rw [Hts.out, List.all_append, hdig.out]; simp [hd]
              have hv2 := valB_take_lt s (k + 1) (by omega) hdig2
              have Hdig2 := Lib.hid hdig2
              have Hv := Lib.hid (show valB (s.take (k + 1)) = 10 * valB (s.take k) + ((s[k]).toNat - 48) by rw [Hts.out, valB_snoc])
              clear hd hdig2
              go_wp2_with fail
              go_round
              case rel => exact ⟨k + 1, by go_num, by omega, Hdig2.out, hv2, vint (by rw [Hv.out]; omega)⟩
              case measure => simp [intOf]; omega
            · have Hn := Lib.hid (pnV_no (m := m) (show decL s = none by
                unfold decL
                rw [if_neg]
                rintro ⟨_, _, h, _⟩
                exact hd (List.all_eq_true.1 h _ (List.getElem_mem hlt))))
              have h2 : (s[k]).toNat < 48 ∨ (48 ≤ (s[k]).toNat ∧ 57 < (s[k]).toNat) := by
                rcases Nat.lt_or_ge (s[k]).toNat 48 with h | h
                · exact .inl h
                · rcases Nat.lt_or_ge 57 (s[k]).toNat with h' | h'
                  · exact .inr ⟨h, h'⟩
                  · exact absurd (isDig_iff.2 ⟨h, h'⟩) hd
              clear hd
              rcases h2 with h2 | ⟨h2, h4⟩
              · go_wp2_with fail
                go_ret2
                exact ⟨by rw [Hn.out]; rfl, rfl⟩
              · go_wp2_with fail
                go_ret2
                exact ⟨by rw [Hn.out]; rfl, rfl⟩
          · have e : s.take k = s := List.take_of_length_le (by omega)
            have Hn := Lib.hid (pnV_yes (m := m) (show decL s = some (valB (s.take k)) by
              have hd := hdig.out
              rw [e] at hd ⊢
              unfold decL
              rw [if_pos ⟨by omega, by omega, hd, Hall.out⟩]))
            clear e
            generalize valB (s.take k) = v at hv Hn
            by_cases hvm : v ≤ m
            · go_wp2_with fail
              go_ret2
              exact ⟨by rw [Hn.out]; exact ret2 rfl (vbool (by simp [hvm])), rfl⟩
            · go_wp2_with fail
              go_ret2
              exact ⟨by rw [Hn.out]; exact ret2 rfl (vbool (by simp; omega)), rfl⟩
end Go.Proofs.YtcjfgbcdlcdeaaaGreatDoor
