/- The walks: every function that FnExactCheckSites reaches computes the plain function that is typed beside it; no condition. -/
import Derived.Test.YtiaobghojdehbaaGreatDoorProg
import Derived.Test.YtiaobghojdehbaaGreatDoorDat
import Derived.Test.YtiaobghojdehbaaGreatDoorShelf
set_option linter.all false
set_option maxRecDepth 20000
set_option maxHeartbeats 40000000
namespace Go.Proofs.YtiaobghojdehbaaGreatDoor
open Go Go.RowKit Go.Eng Go.Proofs.Tryz
open Go.IntKind (wrap)
variable {n H:Nat} {w:World}
theorem Tryz.hm : Tryz.prog.follows .mixedOrders = true := by kernel_rfl
theorem ag_106 : aggB prog 106 = some true := by kernel_rfl
theorem ag_129 : aggB prog 129 = some false := by kernel_rfl
theorem ag_131 : aggB prog 131 = some true := by kernel_rfl
theorem ag_139 : aggB prog 139 = some true := by kernel_rfl
theorem ag_140 : aggB prog 140 = some false := by kernel_rfl
theorem ag_141 : aggB prog 141 = some false := by kernel_rfl
theorem ag_143 : aggB prog 143 = some true := by kernel_rfl
theorem ag_145 : aggB prog 145 = some true := by kernel_rfl
theorem ag_148 : aggB prog 148 = some true := by kernel_rfl
theorem ag_186 : aggB prog 186 = some true := by kernel_rfl
theorem ag_189 : aggB prog 189 = some true := by kernel_rfl
theorem ag_2 : aggB prog 2 = some false := by kernel_rfl
theorem ag_217 : aggB prog 217 = some true := by kernel_rfl
theorem ag_22 : aggB prog 22 = some false := by kernel_rfl
theorem ag_225 : aggB prog 225 = some true := by kernel_rfl
theorem ag_239 : aggB prog 239 = some false := by kernel_rfl
theorem ag_24 : aggB prog 24 = some true := by kernel_rfl
theorem ag_240 : aggB prog 240 = some false := by kernel_rfl
theorem ag_242 : aggB prog 242 = some true := by kernel_rfl
theorem ag_244 : aggB prog 244 = some true := by kernel_rfl
theorem ag_246 : aggB prog 246 = some true := by kernel_rfl
theorem ag_25 : aggB prog 25 = some false := by kernel_rfl
theorem ag_26 : aggB prog 26 = some false := by kernel_rfl
theorem ag_27 : aggB prog 27 = some false := by kernel_rfl
theorem ag_278 : aggB prog 278 = some true := by kernel_rfl
theorem ag_29 : aggB prog 29 = some true := by kernel_rfl
theorem ag_3 : aggB prog 3 = some false := by kernel_rfl
theorem ag_30 : aggB prog 30 = some false := by kernel_rfl
theorem ag_312 : aggB prog 312 = some true := by kernel_rfl
theorem ag_314 : aggB prog 314 = some false := by kernel_rfl
theorem ag_316 : aggB prog 316 = some true := by kernel_rfl
theorem ag_32 : aggB prog 32 = some true := by kernel_rfl
theorem ag_341 : aggB prog 341 = some true := by kernel_rfl
theorem ag_37 : aggB prog 37 = some false := by kernel_rfl
theorem ag_39 : aggB prog 39 = some true := by kernel_rfl
theorem ag_4 : aggB prog 4 = some false := by kernel_rfl
theorem ag_40 : aggB prog 40 = some false := by kernel_rfl
theorem ag_41 : aggB prog 41 = some false := by kernel_rfl
theorem ag_43 : aggB prog 43 = some true := by kernel_rfl
theorem ag_44 : aggB prog 44 = some false := by kernel_rfl
theorem ag_46 : aggB prog 46 = some true := by kernel_rfl
theorem ag_53 : aggB prog 53 = some false := by kernel_rfl
theorem ag_9 : aggB prog 9 = some false := by kernel_rfl
theorem cn_106 : cellsN prog 106 = some 4 := by kernel_rfl
theorem cn_129 : cellsN prog 129 = some 1 := by kernel_rfl
theorem cn_131 : cellsN prog 131 = some 6 := by kernel_rfl
theorem cn_137 : cellsN prog 137 = some 4 := by kernel_rfl
theorem cn_139 : cellsN prog 139 = some 4 := by kernel_rfl
theorem cn_140 : cellsN prog 140 = some 1 := by kernel_rfl
theorem cn_141 : cellsN prog 141 = some 1 := by kernel_rfl
theorem cn_143 : cellsN prog 143 = some 7 := by kernel_rfl
theorem cn_145 : cellsN prog 145 = some 3 := by kernel_rfl
theorem cn_148 : cellsN prog 148 = some 4 := by kernel_rfl
theorem cn_186 : cellsN prog 186 = some 4 := by kernel_rfl
theorem cn_189 : cellsN prog 189 = some 4 := by kernel_rfl
theorem cn_2 : cellsN prog 2 = some 1 := by kernel_rfl
theorem cn_217 : cellsN prog 217 = some 3 := by kernel_rfl
theorem cn_225 : cellsN prog 225 = some 2 := by kernel_rfl
theorem cn_24 : cellsN prog 24 = some 1 := by kernel_rfl
theorem cn_242 : cellsN prog 242 = some 7 := by kernel_rfl
theorem cn_244 : cellsN prog 244 = some 3 := by kernel_rfl
theorem cn_246 : cellsN prog 246 = some 3 := by kernel_rfl
theorem cn_26 : cellsN prog 26 = some 1 := by kernel_rfl
theorem cn_278 : cellsN prog 278 = some 3 := by kernel_rfl
theorem cn_29 : cellsN prog 29 = some 3 := by kernel_rfl
theorem cn_3 : cellsN prog 3 = some 1 := by kernel_rfl
theorem cn_312 : cellsN prog 312 = some 4 := by kernel_rfl
theorem cn_316 : cellsN prog 316 = some 6 := by kernel_rfl
theorem cn_32 : cellsN prog 32 = some 5 := by kernel_rfl
theorem cn_341 : cellsN prog 341 = some 3 := by kernel_rfl
theorem cn_37 : cellsN prog 37 = some 1 := by kernel_rfl
theorem cn_39 : cellsN prog 39 = some 1 := by kernel_rfl
theorem cn_4 : cellsN prog 4 = some 1 := by kernel_rfl
theorem cn_40 : cellsN prog 40 = some 1 := by kernel_rfl
theorem cn_41 : cellsN prog 41 = some 1 := by kernel_rfl
theorem cn_43 : cellsN prog 43 = some 3 := by kernel_rfl
theorem cn_44 : cellsN prog 44 = some 1 := by kernel_rfl
theorem cn_46 : cellsN prog 46 = some 5 := by kernel_rfl
theorem cn_53 : cellsN prog 53 = some 1 := by kernel_rfl
theorem cn_9 : cellsN prog 9 = some 1 := by kernel_rfl
theorem fo_106_0 : fieldOff prog 106 0 = some 0 := by kernel_rfl
theorem fo_106_1 : fieldOff prog 106 1 = some 1 := by kernel_rfl
theorem fo_106_2 : fieldOff prog 106 2 = some 2 := by kernel_rfl
theorem fo_131_0 : fieldOff prog 131 0 = some 0 := by kernel_rfl
theorem fo_131_1 : fieldOff prog 131 1 = some 1 := by kernel_rfl
theorem fo_131_2 : fieldOff prog 131 2 = some 2 := by kernel_rfl
theorem fo_131_3 : fieldOff prog 131 3 = some 3 := by kernel_rfl
theorem fo_131_4 : fieldOff prog 131 4 = some 4 := by kernel_rfl
theorem fo_131_5 : fieldOff prog 131 5 = some 5 := by kernel_rfl
theorem fo_137_2 : fieldOff prog 137 2 = some 2 := by kernel_rfl
theorem fo_137_3 : fieldOff prog 137 3 = some 3 := by kernel_rfl
theorem fo_139_0 : fieldOff prog 139 0 = some 0 := by kernel_rfl
theorem fo_139_1 : fieldOff prog 139 1 = some 1 := by kernel_rfl
theorem fo_139_2 : fieldOff prog 139 2 = some 2 := by kernel_rfl
theorem fo_139_3 : fieldOff prog 139 3 = some 3 := by kernel_rfl
theorem fo_143_0 : fieldOff prog 143 0 = some 0 := by kernel_rfl
theorem fo_143_1 : fieldOff prog 143 1 = some 1 := by kernel_rfl
theorem fo_143_2 : fieldOff prog 143 2 = some 2 := by kernel_rfl
theorem fo_143_3 : fieldOff prog 143 3 = some 3 := by kernel_rfl
theorem fo_143_4 : fieldOff prog 143 4 = some 4 := by kernel_rfl
theorem fo_143_5 : fieldOff prog 143 5 = some 5 := by kernel_rfl
theorem fo_143_6 : fieldOff prog 143 6 = some 6 := by kernel_rfl
theorem fo_145_0 : fieldOff prog 145 0 = some 0 := by kernel_rfl
theorem fo_145_1 : fieldOff prog 145 1 = some 1 := by kernel_rfl
theorem fo_145_2 : fieldOff prog 145 2 = some 2 := by kernel_rfl
theorem fo_148_2 : fieldOff prog 148 2 = some 2 := by kernel_rfl
theorem fo_148_3 : fieldOff prog 148 3 = some 3 := by kernel_rfl
theorem fo_186_0 : fieldOff prog 186 0 = some 0 := by kernel_rfl
theorem fo_186_1 : fieldOff prog 186 1 = some 1 := by kernel_rfl
theorem fo_186_2 : fieldOff prog 186 2 = some 2 := by kernel_rfl
theorem fo_186_3 : fieldOff prog 186 3 = some 3 := by kernel_rfl
theorem fo_189_0 : fieldOff prog 189 0 = some 0 := by kernel_rfl
theorem fo_189_1 : fieldOff prog 189 1 = some 1 := by kernel_rfl
theorem fo_189_2 : fieldOff prog 189 2 = some 2 := by kernel_rfl
theorem fo_189_3 : fieldOff prog 189 3 = some 3 := by kernel_rfl
theorem fo_217_0 : fieldOff prog 217 0 = some 0 := by kernel_rfl
theorem fo_217_1 : fieldOff prog 217 1 = some 1 := by kernel_rfl
theorem fo_217_2 : fieldOff prog 217 2 = some 2 := by kernel_rfl
theorem fo_225_0 : fieldOff prog 225 0 = some 0 := by kernel_rfl
theorem fo_225_1 : fieldOff prog 225 1 = some 1 := by kernel_rfl
theorem fo_242_0 : fieldOff prog 242 0 = some 0 := by kernel_rfl
theorem fo_242_1 : fieldOff prog 242 1 = some 1 := by kernel_rfl
theorem fo_242_2 : fieldOff prog 242 2 = some 2 := by kernel_rfl
theorem fo_242_3 : fieldOff prog 242 3 = some 3 := by kernel_rfl
theorem fo_242_4 : fieldOff prog 242 4 = some 4 := by kernel_rfl
theorem fo_242_5 : fieldOff prog 242 5 = some 5 := by kernel_rfl
theorem fo_242_6 : fieldOff prog 242 6 = some 6 := by kernel_rfl
theorem fo_244_0 : fieldOff prog 244 0 = some 0 := by kernel_rfl
theorem fo_244_1 : fieldOff prog 244 1 = some 1 := by kernel_rfl
theorem fo_244_2 : fieldOff prog 244 2 = some 2 := by kernel_rfl
theorem fo_246_0 : fieldOff prog 246 0 = some 0 := by kernel_rfl
theorem fo_246_1 : fieldOff prog 246 1 = some 1 := by kernel_rfl
theorem fo_246_2 : fieldOff prog 246 2 = some 2 := by kernel_rfl
theorem fo_24_0 : fieldOff prog 24 0 = some 0 := by kernel_rfl
theorem fo_278_0 : fieldOff prog 278 0 = some 0 := by kernel_rfl
theorem fo_278_1 : fieldOff prog 278 1 = some 1 := by kernel_rfl
theorem fo_278_2 : fieldOff prog 278 2 = some 2 := by kernel_rfl
theorem fo_29_0 : fieldOff prog 29 0 = some 0 := by kernel_rfl
theorem fo_29_1 : fieldOff prog 29 1 = some 1 := by kernel_rfl
theorem fo_29_2 : fieldOff prog 29 2 = some 2 := by kernel_rfl
theorem fo_312_0 : fieldOff prog 312 0 = some 0 := by kernel_rfl
theorem fo_312_1 : fieldOff prog 312 1 = some 1 := by kernel_rfl
theorem fo_312_2 : fieldOff prog 312 2 = some 2 := by kernel_rfl
theorem fo_312_3 : fieldOff prog 312 3 = some 3 := by kernel_rfl
theorem fo_316_0 : fieldOff prog 316 0 = some 0 := by kernel_rfl
theorem fo_316_1 : fieldOff prog 316 1 = some 1 := by kernel_rfl
theorem fo_316_2 : fieldOff prog 316 2 = some 2 := by kernel_rfl
theorem fo_316_3 : fieldOff prog 316 3 = some 3 := by kernel_rfl
theorem fo_316_4 : fieldOff prog 316 4 = some 4 := by kernel_rfl
theorem fo_316_5 : fieldOff prog 316 5 = some 5 := by kernel_rfl
theorem fo_32_0 : fieldOff prog 32 0 = some 0 := by kernel_rfl
theorem fo_32_1 : fieldOff prog 32 1 = some 1 := by kernel_rfl
theorem fo_32_2 : fieldOff prog 32 2 = some 4 := by kernel_rfl
theorem fo_341_0 : fieldOff prog 341 0 = some 0 := by kernel_rfl
theorem fo_341_1 : fieldOff prog 341 1 = some 1 := by kernel_rfl
theorem fo_341_2 : fieldOff prog 341 2 = some 2 := by kernel_rfl
theorem fo_39_0 : fieldOff prog 39 0 = some 0 := by kernel_rfl
theorem fo_43_0 : fieldOff prog 43 0 = some 0 := by kernel_rfl
theorem fo_43_1 : fieldOff prog 43 1 = some 1 := by kernel_rfl
theorem fo_43_2 : fieldOff prog 43 2 = some 2 := by kernel_rfl
theorem fo_46_0 : fieldOff prog 46 0 = some 0 := by kernel_rfl
theorem fo_46_1 : fieldOff prog 46 1 = some 1 := by kernel_rfl
theorem fo_46_2 : fieldOff prog 46 2 = some 4 := by kernel_rfl
theorem gf_10 : goFn prog 10 = true := by kernel_rfl
theorem gf_106 : goFn prog 106 = true := by kernel_rfl
theorem gf_107 : goFn prog 107 = true := by kernel_rfl
theorem gf_108 : goFn prog 108 = true := by kernel_rfl
theorem gf_109 : goFn prog 109 = true := by kernel_rfl
theorem gf_11 : goFn prog 11 = true := by kernel_rfl
theorem gf_110 : goFn prog 110 = true := by kernel_rfl
theorem gf_111 : goFn prog 111 = true := by kernel_rfl
theorem gf_112 : goFn prog 112 = true := by kernel_rfl
theorem gf_113 : goFn prog 113 = true := by kernel_rfl
theorem gf_114 : goFn prog 114 = true := by kernel_rfl
theorem gf_115 : goFn prog 115 = true := by kernel_rfl
theorem gf_116 : goFn prog 116 = true := by kernel_rfl
theorem gf_117 : goFn prog 117 = true := by kernel_rfl
theorem gf_118 : goFn prog 118 = true := by kernel_rfl
theorem gf_119 : goFn prog 119 = true := by kernel_rfl
theorem gf_12 : goFn prog 12 = true := by kernel_rfl
theorem gf_120 : goFn prog 120 = true := by kernel_rfl
theorem gf_121 : goFn prog 121 = true := by kernel_rfl
theorem gf_122 : goFn prog 122 = true := by kernel_rfl
theorem gf_123 : goFn prog 123 = true := by kernel_rfl
theorem gf_124 : goFn prog 124 = true := by kernel_rfl
theorem gf_125 : goFn prog 125 = true := by kernel_rfl
theorem gf_126 : goFn prog 126 = true := by kernel_rfl
theorem gf_127 : goFn prog 127 = true := by kernel_rfl
theorem gf_128 : goFn prog 128 = true := by kernel_rfl
theorem gf_129 : goFn prog 129 = true := by kernel_rfl
theorem gf_13 : goFn prog 13 = true := by kernel_rfl
theorem gf_130 : goFn prog 130 = true := by kernel_rfl
theorem gf_131 : goFn prog 131 = true := by kernel_rfl
theorem gf_134 : goFn prog 134 = true := by kernel_rfl
theorem gf_14 : goFn prog 14 = true := by kernel_rfl
theorem gf_15 : goFn prog 15 = true := by kernel_rfl
theorem gf_154 : goFn prog 154 = true := by kernel_rfl
theorem gf_16 : goFn prog 16 = true := by kernel_rfl
theorem gf_162 : goFn prog 162 = true := by kernel_rfl
theorem gf_163 : goFn prog 163 = true := by kernel_rfl
theorem gf_164 : goFn prog 164 = true := by kernel_rfl
theorem gf_165 : goFn prog 165 = true := by kernel_rfl
theorem gf_166 : goFn prog 166 = true := by kernel_rfl
theorem gf_167 : goFn prog 167 = true := by kernel_rfl
theorem gf_168 : goFn prog 168 = true := by kernel_rfl
theorem gf_169 : goFn prog 169 = true := by kernel_rfl
theorem gf_17 : goFn prog 17 = true := by kernel_rfl
theorem gf_170 : goFn prog 170 = true := by kernel_rfl
theorem gf_171 : goFn prog 171 = true := by kernel_rfl
theorem gf_172 : goFn prog 172 = true := by kernel_rfl
theorem gf_173 : goFn prog 173 = true := by kernel_rfl
theorem gf_174 : goFn prog 174 = true := by kernel_rfl
theorem gf_175 : goFn prog 175 = true := by kernel_rfl
theorem gf_176 : goFn prog 176 = true := by kernel_rfl
theorem gf_177 : goFn prog 177 = true := by kernel_rfl
theorem gf_178 : goFn prog 178 = true := by kernel_rfl
theorem gf_179 : goFn prog 179 = true := by kernel_rfl
theorem gf_180 : goFn prog 180 = true := by kernel_rfl
theorem gf_181 : goFn prog 181 = true := by kernel_rfl
theorem gf_182 : goFn prog 182 = true := by kernel_rfl
theorem gf_183 : goFn prog 183 = true := by kernel_rfl
theorem gf_184 : goFn prog 184 = true := by kernel_rfl
theorem gf_185 : goFn prog 185 = true := by kernel_rfl
theorem gf_19 : goFn prog 19 = true := by kernel_rfl
theorem gf_190 : goFn prog 190 = true := by kernel_rfl
theorem gf_203 : goFn prog 203 = true := by kernel_rfl
theorem gf_21 : goFn prog 21 = true := by kernel_rfl
theorem gf_211 : goFn prog 211 = true := by kernel_rfl
theorem gf_212 : goFn prog 212 = true := by kernel_rfl
theorem gf_213 : goFn prog 213 = true := by kernel_rfl
theorem gf_214 : goFn prog 214 = true := by kernel_rfl
theorem gf_215 : goFn prog 215 = true := by kernel_rfl
theorem gf_216 : goFn prog 216 = true := by kernel_rfl
theorem gf_217 : goFn prog 217 = true := by kernel_rfl
theorem gf_218 : goFn prog 218 = true := by kernel_rfl
theorem gf_219 : goFn prog 219 = true := by kernel_rfl
theorem gf_22 : goFn prog 22 = true := by kernel_rfl
theorem gf_220 : goFn prog 220 = true := by kernel_rfl
theorem gf_221 : goFn prog 221 = true := by kernel_rfl
theorem gf_222 : goFn prog 222 = true := by kernel_rfl
theorem gf_223 : goFn prog 223 = true := by kernel_rfl
theorem gf_224 : goFn prog 224 = true := by kernel_rfl
theorem gf_225 : goFn prog 225 = true := by kernel_rfl
theorem gf_226 : goFn prog 226 = true := by kernel_rfl
theorem gf_227 : goFn prog 227 = true := by kernel_rfl
theorem gf_23 : goFn prog 23 = true := by kernel_rfl
theorem gf_242 : goFn prog 242 = true := by kernel_rfl
theorem gf_243 : goFn prog 243 = true := by kernel_rfl
theorem gf_244 : goFn prog 244 = true := by kernel_rfl
theorem gf_245 : goFn prog 245 = true := by kernel_rfl
theorem gf_246 : goFn prog 246 = true := by kernel_rfl
theorem gf_247 : goFn prog 247 = true := by kernel_rfl
theorem gf_248 : goFn prog 248 = true := by kernel_rfl
theorem gf_249 : goFn prog 249 = true := by kernel_rfl
theorem gf_250 : goFn prog 250 = true := by kernel_rfl
theorem gf_251 : goFn prog 251 = true := by kernel_rfl
theorem gf_252 : goFn prog 252 = true := by kernel_rfl
theorem gf_253 : goFn prog 253 = true := by kernel_rfl
theorem gf_254 : goFn prog 254 = true := by kernel_rfl
theorem gf_255 : goFn prog 255 = true := by kernel_rfl
theorem gf_256 : goFn prog 256 = true := by kernel_rfl
theorem gf_259 : goFn prog 259 = true := by kernel_rfl
theorem gf_261 : goFn prog 261 = true := by kernel_rfl
theorem gf_262 : goFn prog 262 = true := by kernel_rfl
theorem gf_263 : goFn prog 263 = true := by kernel_rfl
theorem gf_264 : goFn prog 264 = true := by kernel_rfl
theorem gf_265 : goFn prog 265 = true := by kernel_rfl
theorem gf_266 : goFn prog 266 = true := by kernel_rfl
theorem gf_267 : goFn prog 267 = true := by kernel_rfl
theorem gf_268 : goFn prog 268 = true := by kernel_rfl
theorem gf_269 : goFn prog 269 = true := by kernel_rfl
theorem gf_270 : goFn prog 270 = true := by kernel_rfl
theorem gf_271 : goFn prog 271 = true := by kernel_rfl
theorem gf_274 : goFn prog 274 = true := by kernel_rfl
theorem gf_275 : goFn prog 275 = true := by kernel_rfl
theorem gf_276 : goFn prog 276 = true := by kernel_rfl
theorem gf_285 : goFn prog 285 = true := by kernel_rfl
theorem gf_286 : goFn prog 286 = true := by kernel_rfl
theorem gf_287 : goFn prog 287 = true := by kernel_rfl
theorem gf_288 : goFn prog 288 = true := by kernel_rfl
theorem gf_289 : goFn prog 289 = true := by kernel_rfl
theorem gf_291 : goFn prog 291 = true := by kernel_rfl
theorem gf_297 : goFn prog 297 = true := by kernel_rfl
theorem gf_298 : goFn prog 298 = true := by kernel_rfl
theorem gf_299 : goFn prog 299 = true := by kernel_rfl
theorem gf_300 : goFn prog 300 = true := by kernel_rfl
theorem gf_301 : goFn prog 301 = true := by kernel_rfl
theorem gf_302 : goFn prog 302 = true := by kernel_rfl
theorem gf_303 : goFn prog 303 = true := by kernel_rfl
theorem gf_307 : goFn prog 307 = true := by kernel_rfl
theorem gf_308 : goFn prog 308 = true := by kernel_rfl
theorem gf_47 : goFn prog 47 = true := by kernel_rfl
theorem gf_48 : goFn prog 48 = true := by kernel_rfl
theorem gf_49 : goFn prog 49 = true := by kernel_rfl
theorem gf_50 : goFn prog 50 = true := by kernel_rfl
theorem gf_51 : goFn prog 51 = true := by kernel_rfl
theorem gf_52 : goFn prog 52 = true := by kernel_rfl
theorem gf_53 : goFn prog 53 = true := by kernel_rfl
theorem gf_54 : goFn prog 54 = true := by kernel_rfl
theorem gf_55 : goFn prog 55 = true := by kernel_rfl
theorem gf_56 : goFn prog 56 = true := by kernel_rfl
theorem gf_57 : goFn prog 57 = true := by kernel_rfl
theorem gf_58 : goFn prog 58 = true := by kernel_rfl
theorem gf_59 : goFn prog 59 = true := by kernel_rfl
theorem gf_60 : goFn prog 60 = true := by kernel_rfl
theorem gf_61 : goFn prog 61 = true := by kernel_rfl
theorem gf_62 : goFn prog 62 = true := by kernel_rfl
theorem gf_70 : goFn prog 70 = true := by kernel_rfl
theorem gf_71 : goFn prog 71 = true := by kernel_rfl
theorem gf_9 : goFn prog 9 = true := by kernel_rfl
theorem gf_99 : goFn prog 99 = true := by kernel_rfl
theorem in_106 : infoN prog 106 = some ([.i 0, .i 0, .i 0, .i 0], 4, 32) := by kernel_rfl
theorem in_131 : infoN prog 131 = some ([.i 0, .i 0, .i 0, .i 0, .slice none 0 0, .slice none 0 0], 6, 80) := by kernel_rfl
theorem in_137 : infoN prog 137 = some ([.i 0, .i 0, .i 0, .bool false], 4, 32) := by kernel_rfl
theorem in_139 : infoN prog 139 = some ([.string ByteArray.empty, .i 0, .i 0, .bool false], 4, 40) := by kernel_rfl
theorem in_143 : infoN prog 143 = some ([.string ByteArray.empty, .i 0, .slice none 0 0, .slice none 0 0, .slice none 0 0, .i 0, .i 0], 7, 112) := by kernel_rfl
theorem in_145 : infoN prog 145 = some ([.string ByteArray.empty, .i 0, .slice none 0 0], 3, 48) := by kernel_rfl
theorem in_148 : infoN prog 148 = some ([.i 0, .i 0, .i 0, .bool false], 4, 32) := by kernel_rfl
theorem in_189 : infoN prog 189 = some ([.slice none 0 0, .slice none 0 0, .slice none 0 0, .slice none 0 0], 4, 96) := by kernel_rfl
theorem in_2 : infoN prog 2 = some ([.i 0], 1, 8) := by kernel_rfl
theorem in_217 : infoN prog 217 = some ([.string ByteArray.empty, .i 0, .i 0], 3, 32) := by kernel_rfl
theorem in_278 : infoN prog 278 = some ([.slice none 0 0, .slice none 0 0, .slice none 0 0], 3, 72) := by kernel_rfl
theorem in_3 : infoN prog 3 = some ([.i 0], 1, 8) := by kernel_rfl
theorem in_5 : infoN prog 5 = some ([.int .u8 0], 1, 1) := by kernel_rfl
theorem in_53 : infoN prog 53 = some ([.slice none 0 0], 1, 24) := by kernel_rfl
theorem in_9 : infoN prog 9 = some ([.string ByteArray.empty], 1, 16) := by kernel_rfl
theorem pl_106 : placesN prog 106 = some [(0, 1), (1, 1), (2, 1), (3, 1)] := by kernel_rfl
theorem pl_137 : placesN prog 137 = some [(0, 1), (1, 1), (2, 1), (3, 1)] := by kernel_rfl
theorem pl_148 : placesN prog 148 = some [(0, 1), (1, 1), (2, 1), (3, 1)] := by kernel_rfl
theorem pl_225 : placesN prog 225 = some [(0, 1), (1, 1)] := by kernel_rfl
theorem zn_106 : zeroN prog 106 = some [.i 0, .i 0, .i 0, .i 0] := by kernel_rfl
theorem zn_131 : zeroN prog 131 = some [.i 0, .i 0, .i 0, .i 0, .slice none 0 0, .slice none 0 0] := by kernel_rfl
theorem zn_137 : zeroN prog 137 = some [.i 0, .i 0, .i 0, .bool false] := by kernel_rfl
theorem zn_139 : zeroN prog 139 = some [.string ByteArray.empty, .i 0, .i 0, .bool false] := by kernel_rfl
theorem zn_143 : zeroN prog 143 = some [.string ByteArray.empty, .i 0, .slice none 0 0, .slice none 0 0, .slice none 0 0, .i 0, .i 0] := by kernel_rfl
theorem zn_145 : zeroN prog 145 = some [.string ByteArray.empty, .i 0, .slice none 0 0] := by kernel_rfl
theorem zn_148 : zeroN prog 148 = some [.i 0, .i 0, .i 0, .bool false] := by kernel_rfl
theorem zn_189 : zeroN prog 189 = some [.slice none 0 0, .slice none 0 0, .slice none 0 0, .slice none 0 0] := by kernel_rfl
theorem zn_217 : zeroN prog 217 = some [.string ByteArray.empty, .i 0, .i 0] := by kernel_rfl
theorem zn_225 : zeroN prog 225 = some [.i 0, .i 0] := by kernel_rfl
theorem zn_278 : zeroN prog 278 = some [.slice none 0 0, .slice none 0 0, .slice none 0 0] := by kernel_rfl
theorem zn_39 : zeroN prog 39 = some [.slice none 0 0] := by kernel_rfl
theorem zn_43 : zeroN prog 43 = some [.slice none 0 0, .slice none 0 0, .slice none 0 0] := by kernel_rfl
theorem zn_46 : zeroN prog 46 = some [.slice none 0 0, .slice none 0 0, .slice none 0 0, .slice none 0 0, .slice none 0 0] := by kernel_rfl
def F_2c (n : Nat) (a0_s : ByteArray) (a1_cutset : ByteArray) : Option ByteArray := if a0_s.size ≤ 9223372036854775807 ∧ a1_cutset.size < 4294967281 ∧ (a1_cutset.data.toList.all fun b => decide (b.toNat < 128)) = true then some ⟨(Lib.trimS a0_s.data.toList a1_cutset.data.toList).toArray⟩ else none
theorem W_2c {n : Nat} {a0_s : ByteArray} {a1_cutset : ByteArray} {r : ByteArray} {w : World} (hF : F_2c n a0_s a1_cutset = some r) :
    Calls prog 264 [.string a0_s, .string a1_cutset].toArray w (Ret fun u w2 => u = .string r ∧ Ext w w2) := by
  unfold F_2c at hF
  split at hF
  · rename_i h
    obtain rfl := Option.some.inj hF
    refine (strings_Trim_ascii a0_s a1_cutset w h.1 h.2.1 (fun j b hb => of_decide_eq_true (List.all_eq_true.1 h.2.2 b (List.mem_of_getElem? hb)))).mono ?_
    rintro e w' ⟨rfl, hB⟩
    exact ⟨_, rfl, rfl, hB⟩
  · cases hF
def F_38 (n : Nat) (a0_s : ByteArray) (a1_c : Int) : Option Int := some (Lib.indexByte a0_s.data.toList a1_c.toNat.toUInt8)
theorem W_38 {n : Nat} {a0_s : ByteArray} {a1_c : Int} {r : Int} {w : World} (hF : F_38 n a0_s a1_c = some r) :
    Calls prog 265 [.string a0_s, .int .u8 a1_c].toArray w (Ret fun u w2 => u = .i r ∧ Ext w w2) := by
  obtain rfl := Option.some.inj hF
  refine (strings_IndexByte a0_s a1_c w).mono ?_
  rintro e w' ⟨rfl, rfl⟩
  exact ⟨_, rfl, rfl, Ext.refl _⟩
def F_0c_L1 (a0:List ByteArray) (a1:ByteArray) (k0:Int→Option Int):Nat→Int→Option Int
  | 0, _=>none
  | m + 1, i5=>(bif decide (i5 < (a0.length:Int)) then ((getI a0 i5).bind fun x6=>(bif (a1.toList == x6.toList) then (some i5) else (F_0c_L1 a0 a1 k0 m (wrap .i64 (i5 + 1))))) else (k0 i5))
def F_0c (n:Nat) (a0:List ByteArray) (a1:ByteArray):Option Int:=(F_0c_L1 a0 a1 (fun i5=>(some (-1))) n 0)
theorem W_0c {C:List ByteArray} {D:ByteArray} {r:Int} {F:Value} (hF:F_0c n C D = some r) (hH:H ≤ w.heap.size) (G:slRep cStr w (Iv 0 H) C F) :
    Calls prog 269 [F,.string D].toArray w (Ret fun u L => u = .i r∧Ext w L):=by
  refine calls_ofD func269 rfl ntmps269 ?_;have I:Ext w w:=Ext.refl w;unfold F_0c at hF;refine Rc 9 (Yl rfl (yle rfl underlying26 (G.oh hH I)) (Ro 4 ?_));refine WC.loopD (fun B a wl => ∃ (A:Int),Kn 19 [(0,F),(1,.string D),(7,.i ((C.length:Int))),(8,.i A)] a∧Ext w wl∧w.heap.size ≤ wl.heap.size∧F_0c_L1 C D (fun A => (some (-1))) B A = some r) n ?_ ?_
  · intro a hK;exact ⟨0,hK.sub rfl,I,Nat.le_refl _,hF⟩
  · rintro B a Q ⟨A,hK,E,O,hF⟩;revert a;change WC _ _ _ _ _ _
    cases B with
    | zero => exact nos hF
    | succ B =>
      rw [F_0c_L1.eq_2] at hF;refine Rc 6 (Wc rfl hF ?_ ?_)
      · intro hF;refine Rc 15 ?_;have ⟨R,K,hF⟩:=bsome hF;refine Ye rfl (yix rfl underlying26 cn_9 (G.oh hH E) K) ?_;rintro _ ⟨M,P,_,rfl,N,rfl,J⟩;refine Yl rfl (ylc 0 rfl ag_9 J rfl rfl) (Ro 3 (Wc rfl hF ?_ ?_))
        · intro hF;refine Rc 12 ?_;obtain rfl:=szs hF;exact Ne rfl rfl ⟨_,rfl,rfl,E⟩
        · intro hF;refine Rc 8 ?_;intro a hK;exact ⟨B,Nat.le.refl,(wrap .i64 (A + 1)),hK.sub rfl,E,(by omega),hF⟩
      · intro hF;refine Rc 11 ?_;obtain rfl:=szs hF;exact Ne rfl rfl ⟨_,rfl,rfl,E⟩
def F_2d (n:Nat) (a0:List ByteArray) (a1:ByteArray):Option Bool:=((F_0c n a0 a1).bind fun r3=>(some (decide (r3 ≥ 0))))
theorem W_2d {A:List ByteArray} {B:ByteArray} {r:Bool} {D:Value} (hF:F_2d n A B = some r) (hH:H ≤ w.heap.size) (E:slRep cStr w (Iv 0 H) A D) :
    Calls prog 253 [D,.string B].toArray w (Ret fun u J => u = .bool r∧Ext w J):=by
  refine calls_ofD func253 rfl ntmps253 ?_;have C:Ext w w:=Ext.refl w;unfold F_2d at hF;refine Rc 9 ?_;have ⟨L,G,hF⟩:=bsome hF;refine Ef rfl (eca rfl gf_269 (W_0c G (by omega) (E.oh hH C) :)) ?_;rintro _ M ⟨rfl,I⟩;obtain ⟨F,K⟩:=Et C I;refine Ro 5 ?_;obtain rfl:=szs hF;exact Ne rfl rfl ⟨_,rfl,rfl,F⟩
def F_0d_L1 (a0:List Int) (k0:Int→Int→Option Int):Nat→Int→Int→Option Int
  | 0, _, _=>none
  | m + 1, i14, i15=>(bif decide (i15 < (a0.length:Int)) then ((getI a0 i15).bind fun x16=>(F_0d_L1 a0 k0 m (min i14 x16) (wrap .i64 (i15 + 1)))) else (k0 i14 i15))
def F_0d (n:Nat) (a0:List Int):Option Int:=(bif decide ((a0.length:Int) < 1) then none else ((getI a0 0).bind fun x3=>(F_0d_L1 a0 (fun i14 i15=>(some i14)) n x3 1)))
theorem W_0d {F:List Int} {r:Int} {I:Value} (hF:F_0d n F = some r) (hH:H ≤ w.heap.size) (D:slRep (cInt .i64) w (Iv 0 H) F I) :
    Calls prog 300 [I].toArray w (Ret fun u N => u = .i r∧Ext w N):=by
  refine calls_ofD func300 rfl ntmps300 ?_;have G:Ext w w:=Ext.refl w;unfold F_0d at hF;refine Rc 9 (Yl rfl (yle rfl underlying53 (D.oh hH G)) (Ro 3 (Wc rfl hF ?_ ?_)))
  · intro hF;cases hF
  · intro hF;refine Rc 5 ?_;have ⟨P,M,hF⟩:=bsome hF;refine Ye rfl (yix rfl underlying53 cn_2 (D.oh hH G) M) ?_;rintro _ ⟨R,W,_,rfl,S,rfl,K⟩;refine Yl rfl (ylc 0 rfl ag_2 K rfl rfl) (Ro 10 ?_);refine WC.loopD (fun C a wl => ∃ (A:Int) (B:Int),Kn 25 [(0,I),(3,.i A),(4,.i B)] a∧Ext w wl∧w.heap.size ≤ wl.heap.size∧F_0d_L1 F (fun A B => (some A)) C A B = some r) n ?_ ?_
    · intro a hK;exact ⟨P,1,hK.sub rfl,G,Nat.le_refl _,hF⟩
    · rintro C a X ⟨A,B,hK,E,U,hF⟩;revert a;change WC _ _ _ _ _ _
      cases C with
      | zero => exact nos hF
      | succ C =>
        rw [F_0d_L1.eq_2] at hF;refine Rc 5 (Yl rfl (yle rfl underlying53 (D.oh hH E)) (Ro 3 (Wc rfl hF ?_ ?_)))
        · intro hF;refine Rc 8 ?_;have ⟨O,L,hF⟩:=bsome hF;refine Ye rfl (yix rfl underlying53 cn_2 (D.oh hH E) L) ?_;rintro _ ⟨Q,V,_,rfl,T,rfl,J⟩;refine Yl rfl (ylc 0 rfl ag_2 J rfl rfl) (Yl rfl (yld_min2 rfl rfl rfl) (Ro 10 ?_));intro a hK;exact ⟨C,Nat.le.refl,(min A O),(wrap .i64 (B + 1)),hK.sub rfl,E,(by omega),hF⟩
        · intro hF;refine Rc 12 ?_;obtain rfl:=szs hF;exact Ne rfl rfl ⟨_,rfl,rfl,E⟩
end Go.Proofs.YtiaobghojdehbaaGreatDoor
