/- The walks: every function that FnExactClockNodes reaches computes the plain function that is typed beside it; no condition. -/
import Derived.Test.YtiaobghojdehbaaGreatDoorProg
import Derived.Test.YtiaobghojdehbaaGreatDoorDat
import Derived.Test.YtiaobghojdehbaaGreatDoorShelf
set_option linter.all false
set_option maxRecDepth 20000
set_option maxHeartbeats 40000000
namespace Go.Proofs.YtiaobghojdehbaaGreatDoor
open Go Go.RowKit Go.Eng Go.Proofs.Tryz
open Go.IntKind (wrap)
variable {n H:Nat} {w:World}
theorem Tryz.hm : Tryz.prog.follows .mixedOrders = true := by kernel_rfl
theorem ag_116 : aggB prog 116 = some false := by kernel_rfl
theorem ag_124 : aggB prog 124 = some false := by kernel_rfl
theorem ag_128 : aggB prog 128 = some true := by kernel_rfl
theorem ag_129 : aggB prog 129 = some false := by kernel_rfl
theorem ag_131 : aggB prog 131 = some true := by kernel_rfl
theorem ag_137 : aggB prog 137 = some true := by kernel_rfl
theorem ag_139 : aggB prog 139 = some true := by kernel_rfl
theorem ag_140 : aggB prog 140 = some false := by kernel_rfl
theorem ag_141 : aggB prog 141 = some false := by kernel_rfl
theorem ag_143 : aggB prog 143 = some true := by kernel_rfl
theorem ag_145 : aggB prog 145 = some true := by kernel_rfl
theorem ag_148 : aggB prog 148 = some true := by kernel_rfl
theorem ag_149 : aggB prog 149 = some false := by kernel_rfl
theorem ag_186 : aggB prog 186 = some true := by kernel_rfl
theorem ag_189 : aggB prog 189 = some true := by kernel_rfl
theorem ag_2 : aggB prog 2 = some false := by kernel_rfl
theorem ag_217 : aggB prog 217 = some true := by kernel_rfl
theorem ag_22 : aggB prog 22 = some false := by kernel_rfl
theorem ag_225 : aggB prog 225 = some true := by kernel_rfl
theorem ag_239 : aggB prog 239 = some false := by kernel_rfl
theorem ag_24 : aggB prog 24 = some true := by kernel_rfl
theorem ag_240 : aggB prog 240 = some false := by kernel_rfl
theorem ag_242 : aggB prog 242 = some true := by kernel_rfl
theorem ag_244 : aggB prog 244 = some true := by kernel_rfl
theorem ag_246 : aggB prog 246 = some true := by kernel_rfl
theorem ag_25 : aggB prog 25 = some false := by kernel_rfl
theorem ag_26 : aggB prog 26 = some false := by kernel_rfl
theorem ag_27 : aggB prog 27 = some false := by kernel_rfl
theorem ag_278 : aggB prog 278 = some true := by kernel_rfl
theorem ag_29 : aggB prog 29 = some true := by kernel_rfl
theorem ag_299 : aggB prog 299 = some true := by kernel_rfl
theorem ag_3 : aggB prog 3 = some false := by kernel_rfl
theorem ag_30 : aggB prog 30 = some false := by kernel_rfl
theorem ag_312 : aggB prog 312 = some true := by kernel_rfl
theorem ag_314 : aggB prog 314 = some false := by kernel_rfl
theorem ag_316 : aggB prog 316 = some true := by kernel_rfl
theorem ag_32 : aggB prog 32 = some true := by kernel_rfl
theorem ag_34 : aggB prog 34 = some false := by kernel_rfl
theorem ag_341 : aggB prog 341 = some true := by kernel_rfl
theorem ag_37 : aggB prog 37 = some false := by kernel_rfl
theorem ag_39 : aggB prog 39 = some true := by kernel_rfl
theorem ag_4 : aggB prog 4 = some false := by kernel_rfl
theorem ag_40 : aggB prog 40 = some false := by kernel_rfl
theorem ag_41 : aggB prog 41 = some false := by kernel_rfl
theorem ag_43 : aggB prog 43 = some true := by kernel_rfl
theorem ag_44 : aggB prog 44 = some false := by kernel_rfl
theorem ag_46 : aggB prog 46 = some true := by kernel_rfl
theorem ag_53 : aggB prog 53 = some false := by kernel_rfl
theorem ag_60 : aggB prog 60 = some false := by kernel_rfl
theorem ag_9 : aggB prog 9 = some false := by kernel_rfl
theorem cn_124 : cellsN prog 124 = some 1 := by kernel_rfl
theorem cn_128 : cellsN prog 128 = some 4 := by kernel_rfl
theorem cn_129 : cellsN prog 129 = some 1 := by kernel_rfl
theorem cn_131 : cellsN prog 131 = some 6 := by kernel_rfl
theorem cn_137 : cellsN prog 137 = some 4 := by kernel_rfl
theorem cn_139 : cellsN prog 139 = some 4 := by kernel_rfl
theorem cn_140 : cellsN prog 140 = some 1 := by kernel_rfl
theorem cn_141 : cellsN prog 141 = some 1 := by kernel_rfl
theorem cn_143 : cellsN prog 143 = some 7 := by kernel_rfl
theorem cn_145 : cellsN prog 145 = some 3 := by kernel_rfl
theorem cn_148 : cellsN prog 148 = some 4 := by kernel_rfl
theorem cn_186 : cellsN prog 186 = some 4 := by kernel_rfl
theorem cn_189 : cellsN prog 189 = some 4 := by kernel_rfl
theorem cn_2 : cellsN prog 2 = some 1 := by kernel_rfl
theorem cn_217 : cellsN prog 217 = some 3 := by kernel_rfl
theorem cn_225 : cellsN prog 225 = some 2 := by kernel_rfl
theorem cn_24 : cellsN prog 24 = some 1 := by kernel_rfl
theorem cn_242 : cellsN prog 242 = some 7 := by kernel_rfl
theorem cn_244 : cellsN prog 244 = some 3 := by kernel_rfl
theorem cn_246 : cellsN prog 246 = some 3 := by kernel_rfl
theorem cn_26 : cellsN prog 26 = some 1 := by kernel_rfl
theorem cn_278 : cellsN prog 278 = some 3 := by kernel_rfl
theorem cn_29 : cellsN prog 29 = some 3 := by kernel_rfl
theorem cn_299 : cellsN prog 299 = some 2 := by kernel_rfl
theorem cn_3 : cellsN prog 3 = some 1 := by kernel_rfl
theorem cn_312 : cellsN prog 312 = some 4 := by kernel_rfl
theorem cn_316 : cellsN prog 316 = some 6 := by kernel_rfl
theorem cn_32 : cellsN prog 32 = some 5 := by kernel_rfl
theorem cn_34 : cellsN prog 34 = some 1 := by kernel_rfl
theorem cn_341 : cellsN prog 341 = some 3 := by kernel_rfl
theorem cn_37 : cellsN prog 37 = some 1 := by kernel_rfl
theorem cn_39 : cellsN prog 39 = some 1 := by kernel_rfl
theorem cn_4 : cellsN prog 4 = some 1 := by kernel_rfl
theorem cn_40 : cellsN prog 40 = some 1 := by kernel_rfl
theorem cn_41 : cellsN prog 41 = some 1 := by kernel_rfl
theorem cn_43 : cellsN prog 43 = some 3 := by kernel_rfl
theorem cn_44 : cellsN prog 44 = some 1 := by kernel_rfl
theorem cn_46 : cellsN prog 46 = some 5 := by kernel_rfl
theorem cn_53 : cellsN prog 53 = some 1 := by kernel_rfl
theorem cn_9 : cellsN prog 9 = some 1 := by kernel_rfl
theorem fo_128_0 : fieldOff prog 128 0 = some 0 := by kernel_rfl
theorem fo_128_1 : fieldOff prog 128 1 = some 1 := by kernel_rfl
theorem fo_128_2 : fieldOff prog 128 2 = some 2 := by kernel_rfl
theorem fo_128_3 : fieldOff prog 128 3 = some 3 := by kernel_rfl
theorem fo_131_0 : fieldOff prog 131 0 = some 0 := by kernel_rfl
theorem fo_131_1 : fieldOff prog 131 1 = some 1 := by kernel_rfl
theorem fo_131_2 : fieldOff prog 131 2 = some 2 := by kernel_rfl
theorem fo_131_3 : fieldOff prog 131 3 = some 3 := by kernel_rfl
theorem fo_131_4 : fieldOff prog 131 4 = some 4 := by kernel_rfl
theorem fo_131_5 : fieldOff prog 131 5 = some 5 := by kernel_rfl
theorem fo_137_0 : fieldOff prog 137 0 = some 0 := by kernel_rfl
theorem fo_137_1 : fieldOff prog 137 1 = some 1 := by kernel_rfl
theorem fo_137_2 : fieldOff prog 137 2 = some 2 := by kernel_rfl
theorem fo_137_3 : fieldOff prog 137 3 = some 3 := by kernel_rfl
theorem fo_139_0 : fieldOff prog 139 0 = some 0 := by kernel_rfl
theorem fo_139_1 : fieldOff prog 139 1 = some 1 := by kernel_rfl
theorem fo_139_2 : fieldOff prog 139 2 = some 2 := by kernel_rfl
theorem fo_139_3 : fieldOff prog 139 3 = some 3 := by kernel_rfl
theorem fo_143_0 : fieldOff prog 143 0 = some 0 := by kernel_rfl
theorem fo_143_1 : fieldOff prog 143 1 = some 1 := by kernel_rfl
theorem fo_143_2 : fieldOff prog 143 2 = some 2 := by kernel_rfl
theorem fo_143_3 : fieldOff prog 143 3 = some 3 := by kernel_rfl
theorem fo_143_4 : fieldOff prog 143 4 = some 4 := by kernel_rfl
theorem fo_143_5 : fieldOff prog 143 5 = some 5 := by kernel_rfl
theorem fo_143_6 : fieldOff prog 143 6 = some 6 := by kernel_rfl
theorem fo_145_0 : fieldOff prog 145 0 = some 0 := by kernel_rfl
theorem fo_145_1 : fieldOff prog 145 1 = some 1 := by kernel_rfl
theorem fo_145_2 : fieldOff prog 145 2 = some 2 := by kernel_rfl
theorem fo_148_0 : fieldOff prog 148 0 = some 0 := by kernel_rfl
theorem fo_148_1 : fieldOff prog 148 1 = some 1 := by kernel_rfl
theorem fo_148_2 : fieldOff prog 148 2 = some 2 := by kernel_rfl
theorem fo_148_3 : fieldOff prog 148 3 = some 3 := by kernel_rfl
theorem fo_151_0 : fieldOff prog 151 0 = some 0 := by kernel_rfl
theorem fo_151_1 : fieldOff prog 151 1 = some 5 := by kernel_rfl
theorem fo_151_2 : fieldOff prog 151 2 = some 6 := by kernel_rfl
theorem fo_151_3 : fieldOff prog 151 3 = some 7 := by kernel_rfl
theorem fo_151_4 : fieldOff prog 151 4 = some 8 := by kernel_rfl
theorem fo_186_0 : fieldOff prog 186 0 = some 0 := by kernel_rfl
theorem fo_186_1 : fieldOff prog 186 1 = some 1 := by kernel_rfl
theorem fo_186_2 : fieldOff prog 186 2 = some 2 := by kernel_rfl
theorem fo_186_3 : fieldOff prog 186 3 = some 3 := by kernel_rfl
theorem fo_189_0 : fieldOff prog 189 0 = some 0 := by kernel_rfl
theorem fo_189_1 : fieldOff prog 189 1 = some 1 := by kernel_rfl
theorem fo_189_2 : fieldOff prog 189 2 = some 2 := by kernel_rfl
theorem fo_189_3 : fieldOff prog 189 3 = some 3 := by kernel_rfl
theorem fo_211_0 : fieldOff prog 211 0 = some 0 := by kernel_rfl
theorem fo_211_1 : fieldOff prog 211 1 = some 1 := by kernel_rfl
theorem fo_217_0 : fieldOff prog 217 0 = some 0 := by kernel_rfl
theorem fo_217_1 : fieldOff prog 217 1 = some 1 := by kernel_rfl
theorem fo_217_2 : fieldOff prog 217 2 = some 2 := by kernel_rfl
theorem fo_225_0 : fieldOff prog 225 0 = some 0 := by kernel_rfl
theorem fo_225_1 : fieldOff prog 225 1 = some 1 := by kernel_rfl
theorem fo_242_0 : fieldOff prog 242 0 = some 0 := by kernel_rfl
theorem fo_242_1 : fieldOff prog 242 1 = some 1 := by kernel_rfl
theorem fo_242_2 : fieldOff prog 242 2 = some 2 := by kernel_rfl
theorem fo_242_3 : fieldOff prog 242 3 = some 3 := by kernel_rfl
theorem fo_242_4 : fieldOff prog 242 4 = some 4 := by kernel_rfl
theorem fo_242_5 : fieldOff prog 242 5 = some 5 := by kernel_rfl
theorem fo_242_6 : fieldOff prog 242 6 = some 6 := by kernel_rfl
theorem fo_244_0 : fieldOff prog 244 0 = some 0 := by kernel_rfl
theorem fo_244_1 : fieldOff prog 244 1 = some 1 := by kernel_rfl
theorem fo_244_2 : fieldOff prog 244 2 = some 2 := by kernel_rfl
theorem fo_246_0 : fieldOff prog 246 0 = some 0 := by kernel_rfl
theorem fo_246_1 : fieldOff prog 246 1 = some 1 := by kernel_rfl
theorem fo_246_2 : fieldOff prog 246 2 = some 2 := by kernel_rfl
theorem fo_24_0 : fieldOff prog 24 0 = some 0 := by kernel_rfl
theorem fo_278_0 : fieldOff prog 278 0 = some 0 := by kernel_rfl
theorem fo_278_1 : fieldOff prog 278 1 = some 1 := by kernel_rfl
theorem fo_278_2 : fieldOff prog 278 2 = some 2 := by kernel_rfl
theorem fo_29_0 : fieldOff prog 29 0 = some 0 := by kernel_rfl
theorem fo_29_1 : fieldOff prog 29 1 = some 1 := by kernel_rfl
theorem fo_29_2 : fieldOff prog 29 2 = some 2 := by kernel_rfl
theorem fo_312_0 : fieldOff prog 312 0 = some 0 := by kernel_rfl
theorem fo_312_1 : fieldOff prog 312 1 = some 1 := by kernel_rfl
theorem fo_312_2 : fieldOff prog 312 2 = some 2 := by kernel_rfl
theorem fo_312_3 : fieldOff prog 312 3 = some 3 := by kernel_rfl
theorem fo_316_0 : fieldOff prog 316 0 = some 0 := by kernel_rfl
theorem fo_316_1 : fieldOff prog 316 1 = some 1 := by kernel_rfl
theorem fo_316_2 : fieldOff prog 316 2 = some 2 := by kernel_rfl
theorem fo_316_3 : fieldOff prog 316 3 = some 3 := by kernel_rfl
theorem fo_316_4 : fieldOff prog 316 4 = some 4 := by kernel_rfl
theorem fo_316_5 : fieldOff prog 316 5 = some 5 := by kernel_rfl
theorem fo_32_0 : fieldOff prog 32 0 = some 0 := by kernel_rfl
theorem fo_32_1 : fieldOff prog 32 1 = some 1 := by kernel_rfl
theorem fo_32_2 : fieldOff prog 32 2 = some 4 := by kernel_rfl
theorem fo_341_0 : fieldOff prog 341 0 = some 0 := by kernel_rfl
theorem fo_341_1 : fieldOff prog 341 1 = some 1 := by kernel_rfl
theorem fo_341_2 : fieldOff prog 341 2 = some 2 := by kernel_rfl
theorem fo_39_0 : fieldOff prog 39 0 = some 0 := by kernel_rfl
theorem fo_43_0 : fieldOff prog 43 0 = some 0 := by kernel_rfl
theorem fo_43_1 : fieldOff prog 43 1 = some 1 := by kernel_rfl
theorem fo_43_2 : fieldOff prog 43 2 = some 2 := by kernel_rfl
theorem fo_46_0 : fieldOff prog 46 0 = some 0 := by kernel_rfl
theorem fo_46_1 : fieldOff prog 46 1 = some 1 := by kernel_rfl
theorem fo_46_2 : fieldOff prog 46 2 = some 4 := by kernel_rfl
theorem ft_131_0 : fieldT prog 131 0 = some (2, 0) := by kernel_rfl
theorem gf_106 : goFn prog 106 = true := by kernel_rfl
theorem gf_107 : goFn prog 107 = true := by kernel_rfl
theorem gf_108 : goFn prog 108 = true := by kernel_rfl
theorem gf_109 : goFn prog 109 = true := by kernel_rfl
theorem gf_11 : goFn prog 11 = true := by kernel_rfl
theorem gf_110 : goFn prog 110 = true := by kernel_rfl
theorem gf_111 : goFn prog 111 = true := by kernel_rfl
theorem gf_112 : goFn prog 112 = true := by kernel_rfl
theorem gf_113 : goFn prog 113 = true := by kernel_rfl
theorem gf_114 : goFn prog 114 = true := by kernel_rfl
theorem gf_115 : goFn prog 115 = true := by kernel_rfl
theorem gf_116 : goFn prog 116 = true := by kernel_rfl
theorem gf_117 : goFn prog 117 = true := by kernel_rfl
theorem gf_118 : goFn prog 118 = true := by kernel_rfl
theorem gf_119 : goFn prog 119 = true := by kernel_rfl
theorem gf_120 : goFn prog 120 = true := by kernel_rfl
theorem gf_121 : goFn prog 121 = true := by kernel_rfl
theorem gf_122 : goFn prog 122 = true := by kernel_rfl
theorem gf_123 : goFn prog 123 = true := by kernel_rfl
theorem gf_124 : goFn prog 124 = true := by kernel_rfl
theorem gf_125 : goFn prog 125 = true := by kernel_rfl
theorem gf_126 : goFn prog 126 = true := by kernel_rfl
theorem gf_127 : goFn prog 127 = true := by kernel_rfl
theorem gf_128 : goFn prog 128 = true := by kernel_rfl
theorem gf_129 : goFn prog 129 = true := by kernel_rfl
theorem gf_130 : goFn prog 130 = true := by kernel_rfl
theorem gf_131 : goFn prog 131 = true := by kernel_rfl
theorem gf_132 : goFn prog 132 = true := by kernel_rfl
theorem gf_133 : goFn prog 133 = true := by kernel_rfl
theorem gf_134 : goFn prog 134 = true := by kernel_rfl
theorem gf_135 : goFn prog 135 = true := by kernel_rfl
theorem gf_136 : goFn prog 136 = true := by kernel_rfl
theorem gf_137 : goFn prog 137 = true := by kernel_rfl
theorem gf_138 : goFn prog 138 = true := by kernel_rfl
theorem gf_139 : goFn prog 139 = true := by kernel_rfl
theorem gf_14 : goFn prog 14 = true := by kernel_rfl
theorem gf_140 : goFn prog 140 = true := by kernel_rfl
theorem gf_141 : goFn prog 141 = true := by kernel_rfl
theorem gf_142 : goFn prog 142 = true := by kernel_rfl
theorem gf_143 : goFn prog 143 = true := by kernel_rfl
theorem gf_144 : goFn prog 144 = true := by kernel_rfl
theorem gf_145 : goFn prog 145 = true := by kernel_rfl
theorem gf_15 : goFn prog 15 = true := by kernel_rfl
theorem gf_154 : goFn prog 154 = true := by kernel_rfl
theorem gf_162 : goFn prog 162 = true := by kernel_rfl
theorem gf_163 : goFn prog 163 = true := by kernel_rfl
theorem gf_164 : goFn prog 164 = true := by kernel_rfl
theorem gf_165 : goFn prog 165 = true := by kernel_rfl
theorem gf_166 : goFn prog 166 = true := by kernel_rfl
theorem gf_167 : goFn prog 167 = true := by kernel_rfl
theorem gf_168 : goFn prog 168 = true := by kernel_rfl
theorem gf_169 : goFn prog 169 = true := by kernel_rfl
theorem gf_170 : goFn prog 170 = true := by kernel_rfl
theorem gf_171 : goFn prog 171 = true := by kernel_rfl
theorem gf_172 : goFn prog 172 = true := by kernel_rfl
theorem gf_173 : goFn prog 173 = true := by kernel_rfl
theorem gf_174 : goFn prog 174 = true := by kernel_rfl
theorem gf_175 : goFn prog 175 = true := by kernel_rfl
theorem gf_176 : goFn prog 176 = true := by kernel_rfl
theorem gf_177 : goFn prog 177 = true := by kernel_rfl
theorem gf_178 : goFn prog 178 = true := by kernel_rfl
theorem gf_179 : goFn prog 179 = true := by kernel_rfl
theorem gf_18 : goFn prog 18 = true := by kernel_rfl
theorem gf_180 : goFn prog 180 = true := by kernel_rfl
theorem gf_181 : goFn prog 181 = true := by kernel_rfl
theorem gf_182 : goFn prog 182 = true := by kernel_rfl
theorem gf_183 : goFn prog 183 = true := by kernel_rfl
theorem gf_184 : goFn prog 184 = true := by kernel_rfl
theorem gf_185 : goFn prog 185 = true := by kernel_rfl
theorem gf_186 : goFn prog 186 = true := by kernel_rfl
theorem gf_187 : goFn prog 187 = true := by kernel_rfl
theorem gf_188 : goFn prog 188 = true := by kernel_rfl
theorem gf_189 : goFn prog 189 = true := by kernel_rfl
theorem gf_19 : goFn prog 19 = true := by kernel_rfl
theorem gf_190 : goFn prog 190 = true := by kernel_rfl
theorem gf_191 : goFn prog 191 = true := by kernel_rfl
theorem gf_192 : goFn prog 192 = true := by kernel_rfl
theorem gf_193 : goFn prog 193 = true := by kernel_rfl
theorem gf_194 : goFn prog 194 = true := by kernel_rfl
theorem gf_20 : goFn prog 20 = true := by kernel_rfl
theorem gf_203 : goFn prog 203 = true := by kernel_rfl
theorem gf_21 : goFn prog 21 = true := by kernel_rfl
theorem gf_211 : goFn prog 211 = true := by kernel_rfl
theorem gf_212 : goFn prog 212 = true := by kernel_rfl
theorem gf_213 : goFn prog 213 = true := by kernel_rfl
theorem gf_214 : goFn prog 214 = true := by kernel_rfl
theorem gf_215 : goFn prog 215 = true := by kernel_rfl
theorem gf_216 : goFn prog 216 = true := by kernel_rfl
theorem gf_217 : goFn prog 217 = true := by kernel_rfl
theorem gf_218 : goFn prog 218 = true := by kernel_rfl
theorem gf_219 : goFn prog 219 = true := by kernel_rfl
theorem gf_22 : goFn prog 22 = true := by kernel_rfl
theorem gf_220 : goFn prog 220 = true := by kernel_rfl
theorem gf_221 : goFn prog 221 = true := by kernel_rfl
theorem gf_222 : goFn prog 222 = true := by kernel_rfl
theorem gf_223 : goFn prog 223 = true := by kernel_rfl
theorem gf_224 : goFn prog 224 = true := by kernel_rfl
theorem gf_225 : goFn prog 225 = true := by kernel_rfl
theorem gf_226 : goFn prog 226 = true := by kernel_rfl
theorem gf_227 : goFn prog 227 = true := by kernel_rfl
theorem gf_228 : goFn prog 228 = true := by kernel_rfl
theorem gf_229 : goFn prog 229 = true := by kernel_rfl
theorem gf_23 : goFn prog 23 = true := by kernel_rfl
theorem gf_230 : goFn prog 230 = true := by kernel_rfl
theorem gf_231 : goFn prog 231 = true := by kernel_rfl
theorem gf_242 : goFn prog 242 = true := by kernel_rfl
theorem gf_243 : goFn prog 243 = true := by kernel_rfl
theorem gf_244 : goFn prog 244 = true := by kernel_rfl
theorem gf_245 : goFn prog 245 = true := by kernel_rfl
theorem gf_246 : goFn prog 246 = true := by kernel_rfl
theorem gf_247 : goFn prog 247 = true := by kernel_rfl
theorem gf_248 : goFn prog 248 = true := by kernel_rfl
theorem gf_249 : goFn prog 249 = true := by kernel_rfl
theorem gf_250 : goFn prog 250 = true := by kernel_rfl
theorem gf_251 : goFn prog 251 = true := by kernel_rfl
theorem gf_252 : goFn prog 252 = true := by kernel_rfl
theorem gf_253 : goFn prog 253 = true := by kernel_rfl
theorem gf_254 : goFn prog 254 = true := by kernel_rfl
theorem gf_255 : goFn prog 255 = true := by kernel_rfl
theorem gf_256 : goFn prog 256 = true := by kernel_rfl
theorem gf_259 : goFn prog 259 = true := by kernel_rfl
theorem gf_261 : goFn prog 261 = true := by kernel_rfl
theorem gf_262 : goFn prog 262 = true := by kernel_rfl
theorem gf_263 : goFn prog 263 = true := by kernel_rfl
theorem gf_264 : goFn prog 264 = true := by kernel_rfl
theorem gf_265 : goFn prog 265 = true := by kernel_rfl
theorem gf_266 : goFn prog 266 = true := by kernel_rfl
theorem gf_267 : goFn prog 267 = true := by kernel_rfl
theorem gf_268 : goFn prog 268 = true := by kernel_rfl
theorem gf_269 : goFn prog 269 = true := by kernel_rfl
theorem gf_270 : goFn prog 270 = true := by kernel_rfl
theorem gf_271 : goFn prog 271 = true := by kernel_rfl
theorem gf_274 : goFn prog 274 = true := by kernel_rfl
theorem gf_275 : goFn prog 275 = true := by kernel_rfl
theorem gf_276 : goFn prog 276 = true := by kernel_rfl
theorem gf_285 : goFn prog 285 = true := by kernel_rfl
theorem gf_286 : goFn prog 286 = true := by kernel_rfl
theorem gf_287 : goFn prog 287 = true := by kernel_rfl
theorem gf_288 : goFn prog 288 = true := by kernel_rfl
theorem gf_289 : goFn prog 289 = true := by kernel_rfl
theorem gf_291 : goFn prog 291 = true := by kernel_rfl
theorem gf_297 : goFn prog 297 = true := by kernel_rfl
theorem gf_298 : goFn prog 298 = true := by kernel_rfl
theorem gf_299 : goFn prog 299 = true := by kernel_rfl
theorem gf_300 : goFn prog 300 = true := by kernel_rfl
theorem gf_301 : goFn prog 301 = true := by kernel_rfl
theorem gf_302 : goFn prog 302 = true := by kernel_rfl
theorem gf_303 : goFn prog 303 = true := by kernel_rfl
theorem gf_307 : goFn prog 307 = true := by kernel_rfl
theorem gf_308 : goFn prog 308 = true := by kernel_rfl
theorem gf_47 : goFn prog 47 = true := by kernel_rfl
theorem gf_48 : goFn prog 48 = true := by kernel_rfl
theorem gf_49 : goFn prog 49 = true := by kernel_rfl
theorem gf_50 : goFn prog 50 = true := by kernel_rfl
theorem gf_52 : goFn prog 52 = true := by kernel_rfl
theorem gf_53 : goFn prog 53 = true := by kernel_rfl
theorem gf_54 : goFn prog 54 = true := by kernel_rfl
theorem gf_55 : goFn prog 55 = true := by kernel_rfl
theorem gf_57 : goFn prog 57 = true := by kernel_rfl
theorem gf_58 : goFn prog 58 = true := by kernel_rfl
theorem gf_59 : goFn prog 59 = true := by kernel_rfl
theorem gf_60 : goFn prog 60 = true := by kernel_rfl
theorem gf_61 : goFn prog 61 = true := by kernel_rfl
theorem gf_62 : goFn prog 62 = true := by kernel_rfl
theorem gf_63 : goFn prog 63 = true := by kernel_rfl
theorem gf_64 : goFn prog 64 = true := by kernel_rfl
theorem gf_65 : goFn prog 65 = true := by kernel_rfl
theorem gf_66 : goFn prog 66 = true := by kernel_rfl
theorem gf_67 : goFn prog 67 = true := by kernel_rfl
theorem gf_68 : goFn prog 68 = true := by kernel_rfl
theorem gf_69 : goFn prog 69 = true := by kernel_rfl
theorem gf_70 : goFn prog 70 = true := by kernel_rfl
theorem gf_71 : goFn prog 71 = true := by kernel_rfl
theorem gf_72 : goFn prog 72 = true := by kernel_rfl
theorem gf_73 : goFn prog 73 = true := by kernel_rfl
theorem gf_74 : goFn prog 74 = true := by kernel_rfl
theorem gf_75 : goFn prog 75 = true := by kernel_rfl
theorem gf_76 : goFn prog 76 = true := by kernel_rfl
theorem gf_89 : goFn prog 89 = true := by kernel_rfl
theorem gf_9 : goFn prog 9 = true := by kernel_rfl
theorem gf_96 : goFn prog 96 = true := by kernel_rfl
theorem gf_99 : goFn prog 99 = true := by kernel_rfl
theorem in_128 : infoN prog 128 = some ([.i 0, .i 0, .i 0, .i 0], 4, 32) := by kernel_rfl
theorem in_131 : infoN prog 131 = some ([.i 0, .i 0, .i 0, .i 0, .slice none 0 0, .slice none 0 0], 6, 80) := by kernel_rfl
theorem in_137 : infoN prog 137 = some ([.i 0, .i 0, .i 0, .bool false], 4, 32) := by kernel_rfl
theorem in_139 : infoN prog 139 = some ([.string ByteArray.empty, .i 0, .i 0, .bool false], 4, 40) := by kernel_rfl
theorem in_143 : infoN prog 143 = some ([.string ByteArray.empty, .i 0, .slice none 0 0, .slice none 0 0, .slice none 0 0, .i 0, .i 0], 7, 112) := by kernel_rfl
theorem in_145 : infoN prog 145 = some ([.string ByteArray.empty, .i 0, .slice none 0 0], 3, 48) := by kernel_rfl
theorem in_148 : infoN prog 148 = some ([.i 0, .i 0, .i 0, .bool false], 4, 32) := by kernel_rfl
theorem in_189 : infoN prog 189 = some ([.slice none 0 0, .slice none 0 0, .slice none 0 0, .slice none 0 0], 4, 96) := by kernel_rfl
theorem in_2 : infoN prog 2 = some ([.i 0], 1, 8) := by kernel_rfl
theorem in_217 : infoN prog 217 = some ([.string ByteArray.empty, .i 0, .i 0], 3, 32) := by kernel_rfl
theorem in_278 : infoN prog 278 = some ([.slice none 0 0, .slice none 0 0, .slice none 0 0], 3, 72) := by kernel_rfl
theorem in_299 : infoN prog 299 = some ([.i 0, .i 0], 2, 16) := by kernel_rfl
theorem in_3 : infoN prog 3 = some ([.i 0], 1, 8) := by kernel_rfl
theorem in_4 : infoN prog 4 = some ([.bool false], 1, 1) := by kernel_rfl
theorem in_5 : infoN prog 5 = some ([.int .u8 0], 1, 1) := by kernel_rfl
theorem in_53 : infoN prog 53 = some ([.slice none 0 0], 1, 24) := by kernel_rfl
theorem in_9 : infoN prog 9 = some ([.string ByteArray.empty], 1, 16) := by kernel_rfl
theorem pl_128 : placesN prog 128 = some [(0, 1), (1, 1), (2, 1), (3, 1)] := by kernel_rfl
theorem pl_137 : placesN prog 137 = some [(0, 1), (1, 1), (2, 1), (3, 1)] := by kernel_rfl
theorem pl_148 : placesN prog 148 = some [(0, 1), (1, 1), (2, 1), (3, 1)] := by kernel_rfl
theorem pl_151 : placesN prog 151 = some [(0, 5), (5, 1), (6, 1), (7, 1), (8, 1), (9, 1)] := by kernel_rfl
theorem pl_211 : placesN prog 211 = some [(0, 1), (1, 1)] := by kernel_rfl
theorem pl_225 : placesN prog 225 = some [(0, 1), (1, 1)] := by kernel_rfl
theorem pl_299 : placesN prog 299 = some [(0, 1), (1, 1)] := by kernel_rfl
theorem zn_128 : zeroN prog 128 = some [.i 0, .i 0, .i 0, .i 0] := by kernel_rfl
theorem zn_131 : zeroN prog 131 = some [.i 0, .i 0, .i 0, .i 0, .slice none 0 0, .slice none 0 0] := by kernel_rfl
theorem zn_137 : zeroN prog 137 = some [.i 0, .i 0, .i 0, .bool false] := by kernel_rfl
theorem zn_139 : zeroN prog 139 = some [.string ByteArray.empty, .i 0, .i 0, .bool false] := by kernel_rfl
theorem zn_143 : zeroN prog 143 = some [.string ByteArray.empty, .i 0, .slice none 0 0, .slice none 0 0, .slice none 0 0, .i 0, .i 0] := by kernel_rfl
theorem zn_145 : zeroN prog 145 = some [.string ByteArray.empty, .i 0, .slice none 0 0] := by kernel_rfl
theorem zn_148 : zeroN prog 148 = some [.i 0, .i 0, .i 0, .bool false] := by kernel_rfl
theorem zn_151 : zeroN prog 151 = some [.slice none 0 0, .slice none 0 0, .slice none 0 0, .slice none 0 0, .slice none 0 0, .slice none 0 0, .slice none 0 0, .slice none 0 0, .slice none 0 0, .slice none 0 0] := by kernel_rfl
theorem zn_189 : zeroN prog 189 = some [.slice none 0 0, .slice none 0 0, .slice none 0 0, .slice none 0 0] := by kernel_rfl
theorem zn_211 : zeroN prog 211 = some [.pointer none, .slice none 0 0] := by kernel_rfl
theorem zn_217 : zeroN prog 217 = some [.string ByteArray.empty, .i 0, .i 0] := by kernel_rfl
theorem zn_225 : zeroN prog 225 = some [.i 0, .i 0] := by kernel_rfl
theorem zn_278 : zeroN prog 278 = some [.slice none 0 0, .slice none 0 0, .slice none 0 0] := by kernel_rfl
theorem zn_299 : zeroN prog 299 = some [.i 0, .i 0] := by kernel_rfl
theorem zn_39 : zeroN prog 39 = some [.slice none 0 0] := by kernel_rfl
theorem zn_43 : zeroN prog 43 = some [.slice none 0 0, .slice none 0 0, .slice none 0 0] := by kernel_rfl
theorem zn_46 : zeroN prog 46 = some [.slice none 0 0, .slice none 0 0, .slice none 0 0, .slice none 0 0, .slice none 0 0] := by kernel_rfl
def F_w_L1 (k0:Int→ByteArray→Option ByteArray):Nat→Int→ByteArray→Option ByteArray
  | 0, _, _=>none
  | m + 1, i3, t4=>(bif decide (i3 > 0) then ((catS ((strB ([IntKind.wrap IntKind.u8 (wrap .i64 (48 + (Int.tmod i3 10)))]))) t4).bind fun t17=>(F_w_L1 k0 m (wrap .i64 (Int.tdiv i3 10)) t17)) else (k0 i3 t4))
def F_w (n:Nat) (a0:Int):Option ByteArray:=(bif decide (a0 ≤ 0) then (some ((ByteArray.mk #[109, 48]))) else (F_w_L1 (fun i3 t4=>((catS ((ByteArray.mk #[109])) t4).bind fun t5=>(some t5))) n a0 ((ByteArray.mk #[]))))
theorem W_w {D:Int} {r:ByteArray} (hF:F_w n D = some r) :
    Calls prog 183 [.i D].toArray w (Ret fun u O => u = .string r∧Ext w O):=by
  refine calls_ofD func183 rfl ntmps183 ?_;have E:Ext w w:=Ext.refl w;unfold F_w at hF;refine Rc 12 (Wc rfl hF ?_ ?_)
  · intro hF;refine Rc 7 ?_;obtain rfl:=szs hF;exact Ne rfl rfl ⟨_,rfl,rfl,E⟩
  · intro hF;refine Rc 9 ?_;refine WC.loopD (fun B a wl => ∃ (A:Int) (C:ByteArray),Kn 20 [(0,.i A),(3,.string C)] a∧Ext w wl∧w.heap.size ≤ wl.heap.size∧F_w_L1 (fun A C => (Option.bind (catS ((ByteArray.mk #[109])) C) fun N => (some N))) B A C = some r) n ?_ ?_
    · intro a hK;exact ⟨D,((ByteArray.mk #[])),hK.sub rfl,E,Nat.le_refl _,hF⟩
    · rintro B a Y ⟨A,C,hK,F,V,hF⟩;revert a;change WC _ _ _ _ _ _
      cases B with
      | zero => exact nos hF
      | succ B =>
        rw [F_w_L1.eq_2] at hF;refine Rc 7 (Wc rfl hF ?_ ?_)
        · intro hF;refine Rc 8 (Yl rfl (yld_conv rfl underlying3 underlying5 rfl) ?_);refine Ef rfl (eff_buildSlice (c:=(cInt .u8)) (xs:=[IntKind.wrap IntKind.u8 (wrap .i64 (48 + (Int.tmod A 10)))]) (S:=(Iv 0 0)) (uss:=[(0,[.int .u8 (IntKind.wrap IntKind.u8 (wrap .i64 (48 + (Int.tmod A 10))))])]) (out:=[.int .u8 (IntKind.wrap IntKind.u8 (wrap .i64 (48 + (Int.tmod A 10))))]) rfl underlying295 in_5 rfl rfl (fillL_all [[.int .u8 (IntKind.wrap IntKind.u8 (wrap .i64 (48 + (Int.tmod A 10))))]] rfl rfl rfl) rfl rfl rfl rfl (one_rep (uss:=[[.int .u8 (IntKind.wrap IntKind.u8 (wrap .i64 (48 + (Int.tmod A 10))))]]) (show reps _ _ _ _ _ from ⟨rfl,trivial⟩) rfl) (fun k h => by have:=h.2;omega) rfl) ?_;rintro X Z ⟨P,G,R,T,L,I⟩;obtain ⟨H,U⟩:=Et F L;have Q:=bd_of G;clear G;refine Yl rfl (yld_bytes rfl underlying295 underlying5 underlying9 rfl (ownR.slf I nr nr)) (Ro 1 ?_);have ⟨M,J,hF⟩:=bsome hF;refine Yl rfl (yld_cat rfl rfl rfl J) (Ro 10 ?_);intro a hK;exact ⟨B,Nat.le.refl,(wrap .i64 (Int.tdiv A 10)),M,hK.sub rfl,H,(by omega),hF⟩
        · intro hF;refine Rc 8 ?_;have ⟨W,K,hF⟩:=bsome hF;refine Yl rfl (yld_cat rfl rfl rfl K) (Ro 4 ?_);obtain rfl:=szs hF;exact Ne rfl rfl ⟨_,rfl,rfl,F⟩
def F_0p_L1 (n:Nat) (a0:List S_Pin) (k0:Int→Int→Option Int):Nat→Int→Int→Option Int
  | 0, _, _=>none
  | m + 1, i5, i6=>(bif decide (i6 < (a0.length:Int)) then ((F_w n i5).bind fun r8=>((getI a0 i6).bind fun x14=>((getI a0 i6).bind fun x31=>((getI a0 i6).bind fun x48=>((getI a0 i6).bind fun x65=>(F_0p_L1 n a0 k0 m (wrap .i64 ((wrap .i64 ((wrap .i64 ((wrap .i64 (i5 + 1)) + 1)) + 1)) + 1)) (wrap .i64 (i6 + 1)))))))) else (k0 i5 i6))
def F_0p (n:Nat) (a0:List S_Pin) (a1:Int):Option Int:=(F_0p_L1 n a0 (fun i5 i6=>(some i5)) n a1 0)
theorem W_0p {E:List S_Pin} {K:Int} {r:Int} {lo hi:Nat} {J:Value} (hF:F_0p n E K = some r) (hlh:hi ≤ w.heap.size) (V:slRep C_PinS w (Iv lo hi) E J) :
    Calls prog 184 [J,.i K].toArray w (Ret fun u s => u = .i r∧Sim (Iv lo hi) w s):=by
  refine calls_ofD func184 rfl ntmps184 ?_;have b:Sim (Iv lo hi) w w:=Sim.refl _ w;unfold F_0p at hF;refine Rc 12 ?_;refine WC.loopD (fun D a wl => ∃ (B:Int) (C:Int),Kn 44 [(0,J),(1,.i B),(5,.i C)] a∧Sim (Iv lo hi) w wl∧w.heap.size ≤ wl.heap.size∧slRep C_PinS wl (Iv lo hi) E J∧F_0p_L1 n E (fun B C => (some B)) D B C = some r) n ?_ ?_
  · intro a hK;exact ⟨K,0,hK.sub rfl,b,Nat.le_refl _,V,hF⟩
  · rintro D a M0 ⟨B,C,hK,P,A0,A,hF⟩;revert a;change WC _ _ _ _ _ _
    cases D with
    | zero => exact nos hF
    | succ D =>
      rw [F_0p_L1.eq_2] at hF;refine Rc 5 (Yl rfl (yle rfl underlying140 A) (Ro 3 (Wc rfl hF ?_ ?_)))
      · intro hF;refine Rc 9 ?_;have ⟨F0,h,hF⟩:=bsome hF;refine Ef rfl (eca rfl gf_183 (W_w h :)) ?_;rintro _ K0 ⟨rfl,U⟩;obtain ⟨c,t⟩:=Est P U;have A:=A.old U (by omega);have ⟨Q0,m,hF⟩:=bsome hF;refine Ye rfl (yix rfl underlying140 cn_139 A m) ?_;rintro _ ⟨L,B0,G0,rfl,F,i,W⟩;have F:lo ≤ L∧L < hi:=⟨F.1,by have:=F.2;omega⟩;obtain ⟨U0,V0,W0,X0,rfl⟩:=C_PinS_open i;refine Yl rfl (yfa rfl fo_139_0) (Ef rfl (eff_soft 0 rfl W rfl rfl (.str _ _) cn_9 rfl rfl) ?_);rintro _ L0 Q;obtain ⟨d,v⟩:=Ess c Q (all_pB (Or.inl F));have A:=slRep.sim A Q;refine Ro 14 ?_;have ⟨R0,o,hF⟩:=bsome hF;refine Ye rfl (yix rfl underlying140 cn_139 A o) ?_;rintro _ ⟨M,C0,H0,rfl,G,j,X⟩;have G:lo ≤ M∧M < hi:=⟨G.1,by have:=G.2;omega⟩;obtain ⟨Y0,Z0,a0,b0,rfl⟩:=C_PinS_open j;refine Yl rfl (yfa rfl fo_139_1) (Ef rfl (eff_soft 1 rfl X rfl rfl (.int _ _ _) cn_2 rfl rfl) ?_);rintro _ N0 R;obtain ⟨e,x⟩:=Ess d R (all_pB (Or.inl G));have A:=slRep.sim A R;refine Ro 14 ?_;have ⟨S0,p,hF⟩:=bsome hF;refine Ye rfl (yix rfl underlying140 cn_139 A p) ?_;rintro _ ⟨N,D0,I0,rfl,H,k,Y⟩;have H:lo ≤ N∧N < hi:=⟨H.1,by have:=H.2;omega⟩;obtain ⟨c0,d0,e0,f0,rfl⟩:=C_PinS_open k;refine Yl rfl (yfa rfl fo_139_2) (Ef rfl (eff_soft 2 rfl Y rfl rfl (.int _ _ _) cn_2 rfl rfl) ?_);rintro _ O0 S;obtain ⟨f,y⟩:=Ess e S (all_pB (Or.inl H));have A:=slRep.sim A S;refine Ro 16 ?_;have ⟨T0,q,hF⟩:=bsome hF;refine Ye rfl (yix rfl underlying140 cn_139 A q) ?_;rintro _ ⟨O,E0,J0,rfl,I,l,Z⟩;have I:lo ≤ O∧O < hi:=⟨I.1,by have:=I.2;omega⟩;obtain ⟨g0,h0,i0,j0,rfl⟩:=C_PinS_open l;refine Yl rfl (yfa rfl fo_139_3) (Ef rfl (eff_soft 3 rfl Z rfl rfl (.bool _ _) cn_4 rfl rfl) ?_);rintro _ P0 T;obtain ⟨g,z⟩:=Ess f T (all_pB (Or.inl I));have A:=slRep.sim A T;refine Ro 15 ?_;intro a hK;exact ⟨D,Nat.le.refl,(wrap .i64 ((wrap .i64 ((wrap .i64 ((wrap .i64 (B + 1)) + 1)) + 1)) + 1)),(wrap .i64 (C + 1)),hK.sub rfl,g,(by omega),A,hF⟩
      · intro hF;refine Rc 12 ?_;obtain rfl:=szs hF;exact Ne rfl rfl ⟨_,rfl,rfl,P⟩
def F_f_L1 (a0:List Int) (k0:Int→Int→Option Int):Nat→Int→Int→Option Int
  | 0, _, _=>none
  | m + 1, i5, i6=>(bif decide (i6 < (a0.length:Int)) then ((getI a0 i6).bind fun x8=>(F_f_L1 a0 k0 m (wrap .i64 (i5 + 1)) (wrap .i64 (i6 + 1)))) else (k0 i5 i6))
def F_f (n:Nat) (a0:List Int) (a1:Int):Option Int:=(F_f_L1 a0 (fun i5 i6=>(some i5)) n a1 0)
theorem W_f {E:List Int} {H:Int} {r:Int} {lo hi:Nat} {G:Value} (hF:F_f n E H = some r) (hlh:hi ≤ w.heap.size) (L:slRep (cIntS .i64) w (Iv lo hi) E G) :
    Calls prog 22 [G,.i H].toArray w (Ret fun u Q => u = .i r∧Sim (Iv lo hi) w Q):=by
  refine calls_ofD func22 rfl ntmps22 ?_;have N:Sim (Iv lo hi) w w:=Sim.refl _ w;unfold F_f at hF;refine Rc 12 ?_;refine WC.loopD (fun D a wl => ∃ (A:Int) (C:Int),Kn 19 [(0,G),(1,.i A),(5,.i C)] a∧Sim (Iv lo hi) w wl∧w.heap.size ≤ wl.heap.size∧slRep (cIntS .i64) wl (Iv lo hi) E G∧F_f_L1 E (fun A C => (some A)) D A C = some r) n ?_ ?_
  · intro a hK;exact ⟨H,0,hK.sub rfl,N,Nat.le_refl _,L,hF⟩
  · rintro D a V ⟨A,C,hK,J,S,B,hF⟩;revert a;change WC _ _ _ _ _ _
    cases D with
    | zero => exact nos hF
    | succ D =>
      rw [F_f_L1.eq_2] at hF;refine Rc 5 (Yl rfl (yle rfl underlying53 B) (Ro 3 (Wc rfl hF ?_ ?_)))
      · intro hF;refine Rc 9 ?_;have ⟨W,P,hF⟩:=bsome hF;refine Ye rfl (yix rfl underlying53 cn_2 B P) ?_;rintro _ ⟨I,T,_,rfl,F,⟨X,rfl⟩,M⟩;have F:lo ≤ I∧I < hi:=⟨F.1,by have:=F.2;omega⟩;refine Ef rfl (eff_soft 0 rfl M rfl rfl (.int _ _ _) cn_2 rfl rfl) ?_;rintro _ U K;obtain ⟨O,R⟩:=Ess J K (all_pB (Or.inl F));have B:=slRep.sim B K;refine Ro 15 ?_;intro a hK;exact ⟨D,Nat.le.refl,(wrap .i64 (A + 1)),(wrap .i64 (C + 1)),hK.sub rfl,O,(by omega),B,hF⟩
      · intro hF;refine Rc 12 ?_;obtain rfl:=szs hF;exact Ne rfl rfl ⟨_,rfl,rfl,J⟩
def F_0b_L1 (n:Nat) (a0:List S_Table) (k0:Int→Int→Option Int):Nat→Int→Int→Option Int
  | 0, _, _=>none
  | m + 1, i5, i6=>(bif decide (i6 < (a0.length:Int)) then ((getI a0 i6).bind fun x8=>((F_f n x8.Slews i5).bind fun r23=>((getI a0 i6).bind fun x29=>((F_f n x29.Loads r23).bind fun r44=>((getI a0 i6).bind fun x50=>((F_f n x50.Values r44).bind fun r65=>(F_0b_L1 n a0 k0 m r65 (wrap .i64 (i6 + 1))))))))) else (k0 i5 i6))
def F_0b (n:Nat) (a0:List S_Table) (a1:Int):Option Int:=(F_0b_L1 n a0 (fun i5 i6=>(some i5)) n a1 0)
theorem W_0b {E:List S_Table} {G:Int} {r:Int} {lo hi:Nat} {F:Value} (hF:F_0b n E G = some r) (hlh:hi ≤ w.heap.size) (L:slRep C_TableS w (Iv lo hi) E F) :
    Calls prog 227 [F,.i G].toArray w (Ret fun u i => u = .i r∧Sim (Iv lo hi) w i):=by
  refine calls_ofD func227 rfl ntmps227 ?_;have P:Sim (Iv lo hi) w w:=Sim.refl _ w;unfold F_0b at hF;refine Rc 12 ?_;refine WC.loopD (fun D a wl => ∃ (B:Int) (C:Int),Kn 34 [(0,F),(1,.i B),(5,.i C)] a∧Sim (Iv lo hi) w wl∧w.heap.size ≤ wl.heap.size∧slRep C_TableS wl (Iv lo hi) E F∧F_0b_L1 n E (fun B C => (some B)) D B C = some r) n ?_ ?_
  · intro a hK;exact ⟨G,0,hK.sub rfl,P,Nat.le_refl _,L,hF⟩
  · rintro D a W0 ⟨B,C,hK,H,D0,A,hF⟩;revert a;change WC _ _ _ _ _ _
    cases D with
    | zero => exact nos hF
    | succ D =>
      rw [F_0b_L1.eq_2] at hF;refine Rc 5 (Yl rfl (yle rfl underlying129 A) (Ro 3 (Wc rfl hF ?_ ?_)))
      · intro hF;refine Rc 8 ?_;have ⟨Z0,d,hF⟩:=bsome hF;refine Ye rfl (yix rfl underlying129 cn_278 A d) ?_;rintro _ ⟨j,E0,J0,rfl,o,T,M⟩;obtain ⟨M0,N0,O0,rfl,Z,s,t⟩:=C_TableS_open T;refine Yl rfl (yfa rfl fo_278_0) (Yl rfl (ylc 0 rfl ag_53 M rfl rfl) (Ro 1 ?_));have ⟨H0,U,hF⟩:=bsome hF;refine Ef rfl (eca rfl gf_22 (W_f U (by omega) Z :)) ?_;rintro _ V0 ⟨rfl,I⟩;obtain ⟨Q,A0⟩:=Ess H I (fun k h => Or.inl h);have A:=slRep.sim A I;refine Ro 7 ?_;have ⟨a0,e,hF⟩:=bsome hF;refine Ye rfl (yix rfl underlying129 cn_278 A e) ?_;rintro _ ⟨l,F0,K0,rfl,p,V,N⟩;obtain ⟨P0,Q0,R0,rfl,v,b,x⟩:=C_TableS_open V;refine Yl rfl (yfa rfl fo_278_1) (Yl rfl (ylc 1 rfl ag_53 N rfl rfl) (Ro 1 ?_));have ⟨I0,W,hF⟩:=bsome hF;refine Ef rfl (eca rfl gf_22 (W_f W (by omega) b :)) ?_;rintro _ X0 ⟨rfl,J⟩;obtain ⟨R,B0⟩:=Ess Q J (fun k h => Or.inl h);have A:=slRep.sim A J;refine Ro 6 ?_;have ⟨b0,f,hF⟩:=bsome hF;refine Ye rfl (yix rfl underlying129 cn_278 A f) ?_;rintro _ ⟨m,G0,L0,rfl,q,X,O⟩;obtain ⟨S0,T0,U0,rfl,y,z,c⟩:=C_TableS_open X;refine Yl rfl (yfa rfl fo_278_2) (Yl rfl (ylc 2 rfl ag_53 O rfl rfl) (Ro 1 ?_));have ⟨g,Y,hF⟩:=bsome hF;refine Ef rfl (eca rfl gf_22 (W_f Y (by omega) c :)) ?_;rintro _ Y0 ⟨rfl,K⟩;obtain ⟨S,C0⟩:=Ess R K (fun k h => Or.inl h);have A:=slRep.sim A K;refine Ro 10 ?_;intro a hK;exact ⟨D,Nat.le.refl,g,(wrap .i64 (C + 1)),hK.sub rfl,S,(by omega),A,hF⟩
      · intro hF;refine Rc 12 ?_;obtain rfl:=szs hF;exact Ne rfl rfl ⟨_,rfl,rfl,H⟩
def F_0q_L1 (n:Nat) (a0:List S_Arc) (k0:Int→Int→Option Int):Nat→Int→Int→Option Int
  | 0, _, _=>none
  | m + 1, i5, i6=>(bif decide (i6 < (a0.length:Int)) then ((getI a0 i6).bind fun x8=>((getI a0 i6).bind fun x29=>((getI a0 i6).bind fun x50=>((getI a0 i6).bind fun x71=>((getI a0 i6).bind fun x92=>((F_0b n x92.Delay (wrap .i64 ((wrap .i64 ((wrap .i64 ((wrap .i64 (i5 + 1)) + 1)) + 1)) + 1))).bind fun r109=>((getI a0 i6).bind fun x115=>((F_0b n x115.Slew r109).bind fun r132=>(F_0q_L1 n a0 k0 m r132 (wrap .i64 (i6 + 1))))))))))) else (k0 i5 i6))
def F_0q (n:Nat) (a0:List S_Arc) (a1:Int):Option Int:=(F_0q_L1 n a0 (fun i5 i6=>(some i5)) n a1 0)
theorem W_0q {E:List S_Arc} {K:Int} {r:Int} {lo hi:Nat} {J:Value} (hF:F_0q n E K = some r) (hlh:hi ≤ w.heap.size) (W:slRep C_ArcS w (Iv lo hi) E J) :
    Calls prog 185 [J,.i K].toArray w (Ret fun u I0 => u = .i r∧Sim (Iv lo hi) w I0):=by
  refine calls_ofD func185 rfl ntmps185 ?_;have e:Sim (Iv lo hi) w w:=Sim.refl _ w;unfold F_0q at hF;refine Rc 12 ?_;refine WC.loopD (fun D a wl => ∃ (B:Int) (C:Int),Kn 55 [(0,J),(1,.i B),(5,.i C)] a∧Sim (Iv lo hi) w wl∧w.heap.size ≤ wl.heap.size∧slRep C_ArcS wl (Iv lo hi) E J∧F_0q_L1 n E (fun B C => (some B)) D B C = some r) n ?_ ?_
  · intro a hK;exact ⟨K,0,hK.sub rfl,e,Nat.le_refl _,W,hF⟩
  · rintro D a G1 ⟨B,C,hK,P,c0,A,hF⟩;revert a;change WC _ _ _ _ _ _
    cases D with
    | zero => exact nos hF
    | succ D =>
      rw [F_0q_L1.eq_2] at hF;refine Rc 5 (Yl rfl (yle rfl underlying141 A) (Ro 3 (Wc rfl hF ?_ ?_)))
      · intro hF;refine Rc 9 ?_;have ⟨K1,B0,hF⟩:=bsome hF;refine Ye rfl (yix rfl underlying141 cn_131 A B0) ?_;rintro _ ⟨L,f0,m0,rfl,F,s,Z⟩;have F:lo ≤ L∧L < hi:=⟨F.1,by have:=F.2;omega⟩;obtain ⟨Y1,Z1,a1,b1,v0,w0,rfl,P0,Q0⟩:=C_ArcS_open s;refine Yl rfl (yfa rfl fo_131_0) (Ef rfl (eff_soft 0 rfl Z rfl rfl (.int _ _ _) cn_2 rfl rfl) ?_);rintro _ F1 S;obtain ⟨i,Z0⟩:=Ess P S (all_pB (Or.inl F));have A:=slRep.sim A S;refine Ro 14 ?_;have ⟨M1,D0,hF⟩:=bsome hF;refine Ye rfl (yix rfl underlying141 cn_131 A D0) ?_;rintro _ ⟨M,g0,n0,rfl,G,t,b⟩;have G:lo ≤ M∧M < hi:=⟨G.1,by have:=G.2;omega⟩;obtain ⟨c1,d1,e1,f1,x0,y0,rfl,R0,S0⟩:=C_ArcS_open t;refine Yl rfl (yfa rfl fo_131_1) (Ef rfl (eff_soft 1 rfl b rfl rfl (.int _ _ _) cn_2 rfl rfl) ?_);rintro _ H1 T;obtain ⟨j,a0⟩:=Ess i T (all_pB (Or.inl G));have A:=slRep.sim A T;refine Ro 14 ?_;have ⟨N1,E0,hF⟩:=bsome hF;refine Ye rfl (yix rfl underlying141 cn_131 A E0) ?_;rintro _ ⟨N,h0,o0,rfl,H,v,c⟩;have H:lo ≤ N∧N < hi:=⟨H.1,by have:=H.2;omega⟩;obtain ⟨g1,h1,i1,j1,z0,A1,rfl,T0,U0⟩:=C_ArcS_open v;refine Yl rfl (yfa rfl fo_131_2) (Ef rfl (eff_soft 2 rfl c rfl rfl (.int _ _ _) cn_2 rfl rfl) ?_);rintro _ I1 U;obtain ⟨l,b0⟩:=Ess j U (all_pB (Or.inl H));have A:=slRep.sim A U;refine Ro 14 ?_;have ⟨O1,F0,hF⟩:=bsome hF;refine Ye rfl (yix rfl underlying141 cn_131 A F0) ?_;rintro _ ⟨O,i0,p0,rfl,I,x,d⟩;have I:lo ≤ O∧O < hi:=⟨I.1,by have:=I.2;omega⟩;obtain ⟨k1,l1,m1,n1,B1,C1,rfl,V0,W0⟩:=C_ArcS_open x;refine Yl rfl (yfa rfl fo_131_3) (Ef rfl (eff_soft 3 rfl d rfl rfl (.int _ _ _) cn_2 rfl rfl) ?_);rintro _ J1 V;obtain ⟨m,d0⟩:=Ess l V (all_pB (Or.inl I));have A:=slRep.sim A V;refine Ro 13 ?_;have ⟨P1,G0,hF⟩:=bsome hF;refine Ye rfl (yix rfl underlying141 cn_131 A G0) ?_;rintro _ ⟨K0,j0,q0,rfl,L0,y,X⟩;obtain ⟨Q1,R1,S1,T1,r0,s0,rfl,z,N0⟩:=C_ArcS_open y;refine Yl rfl (yfa rfl fo_131_4) (Yl rfl (ylc 4 rfl ag_129 X rfl rfl) (Ro 1 ?_));have ⟨k0,o,hF⟩:=bsome hF;refine Ef rfl (eca rfl gf_227 (W_0b o (by omega) z :)) ?_;rintro _ D1 ⟨rfl,Q⟩;obtain ⟨f,X0⟩:=Ess m Q (fun k h => Or.inl h);have A:=slRep.sim A Q;refine Ro 6 ?_;have ⟨L1,C0,hF⟩:=bsome hF;refine Ye rfl (yix rfl underlying141 cn_131 A C0) ?_;rintro _ ⟨J0,e0,l0,rfl,M0,p,Y⟩;obtain ⟨U1,V1,W1,X1,t0,u0,rfl,O0,A0⟩:=C_ArcS_open p;refine Yl rfl (yfa rfl fo_131_5) (Yl rfl (ylc 5 rfl ag_129 Y rfl rfl) (Ro 1 ?_));have ⟨H0,q,hF⟩:=bsome hF;refine Ef rfl (eca rfl gf_227 (W_0b q (by omega) A0 :)) ?_;rintro _ E1 ⟨rfl,R⟩;obtain ⟨g,Y0⟩:=Ess f R (fun k h => Or.inl h);have A:=slRep.sim A R;refine Ro 10 ?_;intro a hK;exact ⟨D,Nat.le.refl,H0,(wrap .i64 (C + 1)),hK.sub rfl,g,(by omega),A,hF⟩
      · intro hF;refine Rc 12 ?_;obtain rfl:=szs hF;exact Ne rfl rfl ⟨_,rfl,rfl,P⟩
def F_0r_L1 (n:Nat) (a0:List S_Cell) (k0:Int→Int→Option Int):Nat→Int→Int→Option Int
  | 0, _, _=>none
  | m + 1, i5, i6=>(bif decide (i6 < (a0.length:Int)) then ((F_w n i5).bind fun r8=>((getI a0 i6).bind fun x14=>((getI a0 i6).bind fun x37=>((getI a0 i6).bind fun x60=>((F_0p n x60.Pins (wrap .i64 ((wrap .i64 (i5 + 1)) + 1))).bind fun r79=>((getI a0 i6).bind fun x85=>((F_0q n x85.Arcs r79).bind fun r104=>((getI a0 i6).bind fun x110=>((F_f n x110.Truth r104).bind fun r129=>((getI a0 i6).bind fun x135=>((getI a0 i6).bind fun x158=>(F_0r_L1 n a0 k0 m (wrap .i64 ((wrap .i64 (r129 + 1)) + 1)) (wrap .i64 (i6 + 1)))))))))))))) else (k0 i5 i6))
def F_0r (n:Nat) (a0:List S_Cell) (a1:Int):Option Int:=(F_0r_L1 n a0 (fun i5 i6=>(some i5)) n a1 0)
theorem W_0r {E:List S_Cell} {K:Int} {r:Int} {lo hi:Nat} {J:Value} (hF:F_0r n E K = some r) (hlh:hi ≤ w.heap.size) (Y:slRep C_CellS w (Iv lo hi) E J) :
    Calls prog 128 [J,.i K].toArray w (Ret fun u S0 => u = .i r∧Sim (Iv lo hi) w S0):=by
  refine calls_ofD func128 rfl ntmps128 ?_;have i:Sim (Iv lo hi) w w:=Sim.refl _ w;unfold F_0r at hF;refine Rc 12 ?_;refine WC.loopD (fun D a wl => ∃ (B:Int) (C:Int),Kn 63 [(0,J),(1,.i B),(5,.i C)] a∧Sim (Iv lo hi) w wl∧w.heap.size ≤ wl.heap.size∧slRep C_CellS wl (Iv lo hi) E J∧F_0r_L1 n E (fun B C => (some B)) D B C = some r) n ?_ ?_
  · intro a hK;exact ⟨K,0,hK.sub rfl,i,Nat.le_refl _,Y,hF⟩
  · rintro D a r1 ⟨B,C,hK,P,z0,A,hF⟩;revert a;change WC _ _ _ _ _ _
    cases D with
    | zero => exact nos hF
    | succ D =>
      rw [F_0r_L1.eq_2] at hF;refine Rc 5 (Yl rfl (yle rfl underlying37 A) (Ro 3 (Wc rfl hF ?_ ?_)))
      · intro hF;refine Rc 9 ?_;have ⟨H1,x,hF⟩:=bsome hF;refine Ef rfl (eca rfl gf_183 (W_w x :)) ?_;rintro _ n1 ⟨rfl,X⟩;obtain ⟨m,t0⟩:=Est P X;have A:=A.old X (by omega);have ⟨x1,N0,hF⟩:=bsome hF;refine Ye rfl (yix rfl underlying37 cn_143 A N0) ?_;rintro _ ⟨N,D1,N1,rfl,H,C0,d⟩;have H:lo ≤ N∧N < hi:=⟨H.1,by have:=H.2;omega⟩;obtain ⟨O2,P2,Q2,R2,d1,e1,f1,rfl,j0,k0,l0⟩:=C_CellS_open C0;refine Yl rfl (yfa rfl fo_143_0) (Ef rfl (eff_soft 0 rfl d rfl rfl (.str _ _) cn_9 rfl rfl) ?_);rintro _ s1 U;obtain ⟨q,w0⟩:=Ess m U (all_pB (Or.inl H));have A:=slRep.sim A U;refine Ro 14 ?_;have ⟨z1,O0,hF⟩:=bsome hF;refine Ye rfl (yix rfl underlying37 cn_143 A O0) ?_;rintro _ ⟨O,E1,O1,rfl,I,D0,e⟩;have I:lo ≤ O∧O < hi:=⟨I.1,by have:=I.2;omega⟩;obtain ⟨S2,T2,U2,V2,g1,h1,i1,rfl,m0,n0,o0⟩:=C_CellS_open D0;refine Yl rfl (yfa rfl fo_143_1) (Ef rfl (eff_soft 1 rfl e rfl rfl (.int _ _ _) cn_2 rfl rfl) ?_);rintro _ t1 V;obtain ⟨s,x0⟩:=Ess q V (all_pB (Or.inl I));have A:=slRep.sim A V;refine Ro 13 ?_;have ⟨A2,P0,hF⟩:=bsome hF;refine Ye rfl (yix rfl underlying37 cn_143 A P0) ?_;rintro _ ⟨U0,F1,P1,rfl,X0,E0,f⟩;obtain ⟨W2,X2,Y2,Z2,j1,k1,l1,rfl,J0,p0,q0⟩:=C_CellS_open E0;refine Yl rfl (yfa rfl fo_143_2) (Yl rfl (ylc 2 rfl ag_140 f rfl rfl) (Ro 1 ?_));have ⟨J1,F0,hF⟩:=bsome hF;refine Ef rfl (eca rfl gf_184 (W_0p F0 (by omega) J0 :)) ?_;rintro _ u1 ⟨rfl,W⟩;obtain ⟨t,y0⟩:=Ess s W (fun k h => Or.inl h);have A:=slRep.sim A W;refine Ro 7 ?_;have ⟨B2,Q0,hF⟩:=bsome hF;refine Ye rfl (yix rfl underlying37 cn_143 A Q0) ?_;rintro _ ⟨V0,G1,Q1,rfl,Y0,G0,g⟩;obtain ⟨a2,b2,c2,d2,R1,S1,T1,rfl,Z0,H0,a0⟩:=C_CellS_open G0;refine Yl rfl (yfa rfl fo_143_3) (Yl rfl (ylc 3 rfl ag_141 g rfl rfl) (Ro 1 ?_));have ⟨I1,v,hF⟩:=bsome hF;refine Ef rfl (eca rfl gf_185 (W_0q v (by omega) H0 :)) ?_;rintro _ m1 ⟨rfl,Q⟩;obtain ⟨j,r0⟩:=Ess t Q (fun k h => Or.inl h);have A:=slRep.sim A Q;refine Ro 7 ?_;have ⟨v1,K0,hF⟩:=bsome hF;refine Ye rfl (yix rfl underlying37 cn_143 A K0) ?_;rintro _ ⟨T0,A1,K1,rfl,W0,y,Z⟩;obtain ⟨C2,D2,E2,F2,U1,V1,W1,rfl,b0,c0,I0⟩:=C_CellS_open y;refine Yl rfl (yfa rfl fo_143_4) (Yl rfl (ylc 4 rfl ag_53 Z rfl rfl) (Ro 1 ?_));have ⟨R0,z,hF⟩:=bsome hF;refine Ef rfl (eca rfl gf_22 (W_f z (by omega) I0 :)) ?_;rintro _ o1 ⟨rfl,R⟩;obtain ⟨l,s0⟩:=Ess j R (fun k h => Or.inl h);have A:=slRep.sim A R;refine Ro 8 ?_;have ⟨w1,L0,hF⟩:=bsome hF;refine Ye rfl (yix rfl underlying37 cn_143 A L0) ?_;rintro _ ⟨L,B1,L1,rfl,F,A0,b⟩;have F:lo ≤ L∧L < hi:=⟨F.1,by have:=F.2;omega⟩;obtain ⟨G2,H2,I2,J2,X1,Y1,Z1,rfl,d0,e0,f0⟩:=C_CellS_open A0;refine Yl rfl (yfa rfl fo_143_5) (Ef rfl (eff_soft 5 rfl b rfl rfl (.int _ _ _) cn_2 rfl rfl) ?_);rintro _ p1 S;obtain ⟨o,u0⟩:=Ess l S (all_pB (Or.inl F));have A:=slRep.sim A S;refine Ro 14 ?_;have ⟨y1,M0,hF⟩:=bsome hF;refine Ye rfl (yix rfl underlying37 cn_143 A M0) ?_;rintro _ ⟨M,C1,M1,rfl,G,B0,c⟩;have G:lo ≤ M∧M < hi:=⟨G.1,by have:=G.2;omega⟩;obtain ⟨K2,L2,M2,N2,a1,b1,c1,rfl,g0,h0,i0⟩:=C_CellS_open B0;refine Yl rfl (yfa rfl fo_143_6) (Ef rfl (eff_soft 6 rfl c rfl rfl (.int _ _ _) cn_2 rfl rfl) ?_);rintro _ q1 T;obtain ⟨p,v0⟩:=Ess o T (all_pB (Or.inl G));have A:=slRep.sim A T;refine Ro 15 ?_;intro a hK;exact ⟨D,Nat.le.refl,(wrap .i64 ((wrap .i64 (R0 + 1)) + 1)),(wrap .i64 (C + 1)),hK.sub rfl,p,(by omega),A,hF⟩
      · intro hF;refine Rc 12 ?_;obtain rfl:=szs hF;exact Ne rfl rfl ⟨_,rfl,rfl,P⟩
def F_2z (n : Nat) (a0_s : ByteArray) (a1_cutset : ByteArray) : Option ByteArray := if a0_s.size ≤ 9223372036854775807 ∧ a1_cutset.size < 4294967281 ∧ (a1_cutset.data.toList.all fun b => decide (b.toNat < 128)) = true then some ⟨(Lib.trimS a0_s.data.toList a1_cutset.data.toList).toArray⟩ else none
theorem W_2z {n : Nat} {a0_s : ByteArray} {a1_cutset : ByteArray} {r : ByteArray} {w : World} (hF : F_2z n a0_s a1_cutset = some r) :
    Calls prog 264 [.string a0_s, .string a1_cutset].toArray w (Ret fun u w2 => u = .string r ∧ Ext w w2) := by
  unfold F_2z at hF
  split at hF
  · rename_i h
    obtain rfl := Option.some.inj hF
    refine (strings_Trim_ascii a0_s a1_cutset w h.1 h.2.1 (fun j b hb => of_decide_eq_true (List.all_eq_true.1 h.2.2 b (List.mem_of_getElem? hb)))).mono ?_
    rintro e w' ⟨rfl, hB⟩
    exact ⟨_, rfl, rfl, hB⟩
  · cases hF
def F_46 (n : Nat) (a0_s : ByteArray) (a1_c : Int) : Option Int := some (Lib.indexByte a0_s.data.toList a1_c.toNat.toUInt8)
theorem W_46 {n : Nat} {a0_s : ByteArray} {a1_c : Int} {r : Int} {w : World} (hF : F_46 n a0_s a1_c = some r) :
    Calls prog 265 [.string a0_s, .int .u8 a1_c].toArray w (Ret fun u w2 => u = .i r ∧ Ext w w2) := by
  obtain rfl := Option.some.inj hF
  refine (strings_IndexByte a0_s a1_c w).mono ?_
  rintro e w' ⟨rfl, rfl⟩
  exact ⟨_, rfl, rfl, Ext.refl _⟩
def F_0s_L1 (a0:List ByteArray) (a1:ByteArray) (k0:Int→Option Int):Nat→Int→Option Int
  | 0, _=>none
  | m + 1, i5=>(bif decide (i5 < (a0.length:Int)) then ((getI a0 i5).bind fun x6=>(bif (a1.toList == x6.toList) then (some i5) else (F_0s_L1 a0 a1 k0 m (wrap .i64 (i5 + 1))))) else (k0 i5))
def F_0s (n:Nat) (a0:List ByteArray) (a1:ByteArray):Option Int:=(F_0s_L1 a0 a1 (fun i5=>(some (-1))) n 0)
theorem W_0s {C:List ByteArray} {D:ByteArray} {r:Int} {F:Value} (hF:F_0s n C D = some r) (hH:H ≤ w.heap.size) (G:slRep cStr w (Iv 0 H) C F) :
    Calls prog 269 [F,.string D].toArray w (Ret fun u L => u = .i r∧Ext w L):=by
  refine calls_ofD func269 rfl ntmps269 ?_;have I:Ext w w:=Ext.refl w;unfold F_0s at hF;refine Rc 9 (Yl rfl (yle rfl underlying26 (G.oh hH I)) (Ro 4 ?_));refine WC.loopD (fun B a wl => ∃ (A:Int),Kn 19 [(0,F),(1,.string D),(7,.i ((C.length:Int))),(8,.i A)] a∧Ext w wl∧w.heap.size ≤ wl.heap.size∧F_0s_L1 C D (fun A => (some (-1))) B A = some r) n ?_ ?_
  · intro a hK;exact ⟨0,hK.sub rfl,I,Nat.le_refl _,hF⟩
  · rintro B a Q ⟨A,hK,E,O,hF⟩;revert a;change WC _ _ _ _ _ _
    cases B with
    | zero => exact nos hF
    | succ B =>
      rw [F_0s_L1.eq_2] at hF;refine Rc 6 (Wc rfl hF ?_ ?_)
      · intro hF;refine Rc 15 ?_;have ⟨R,K,hF⟩:=bsome hF;refine Ye rfl (yix rfl underlying26 cn_9 (G.oh hH E) K) ?_;rintro _ ⟨M,P,_,rfl,N,rfl,J⟩;refine Yl rfl (ylc 0 rfl ag_9 J rfl rfl) (Ro 3 (Wc rfl hF ?_ ?_))
        · intro hF;refine Rc 12 ?_;obtain rfl:=szs hF;exact Ne rfl rfl ⟨_,rfl,rfl,E⟩
        · intro hF;refine Rc 8 ?_;intro a hK;exact ⟨B,Nat.le.refl,(wrap .i64 (A + 1)),hK.sub rfl,E,(by omega),hF⟩
      · intro hF;refine Rc 11 ?_;obtain rfl:=szs hF;exact Ne rfl rfl ⟨_,rfl,rfl,E⟩
def F_30 (n:Nat) (a0:List ByteArray) (a1:ByteArray):Option Bool:=((F_0s n a0 a1).bind fun r3=>(some (decide (r3 ≥ 0))))
theorem W_30 {A:List ByteArray} {B:ByteArray} {r:Bool} {D:Value} (hF:F_30 n A B = some r) (hH:H ≤ w.heap.size) (E:slRep cStr w (Iv 0 H) A D) :
    Calls prog 253 [D,.string B].toArray w (Ret fun u J => u = .bool r∧Ext w J):=by
  refine calls_ofD func253 rfl ntmps253 ?_;have C:Ext w w:=Ext.refl w;unfold F_30 at hF;refine Rc 9 ?_;have ⟨L,G,hF⟩:=bsome hF;refine Ef rfl (eca rfl gf_269 (W_0s G (by omega) (E.oh hH C) :)) ?_;rintro _ M ⟨rfl,I⟩;obtain ⟨F,K⟩:=Et C I;refine Ro 5 ?_;obtain rfl:=szs hF;exact Ne rfl rfl ⟨_,rfl,rfl,F⟩
def F_0t_L1 (a0:List Int) (k0:Int→Int→Option Int):Nat→Int→Int→Option Int
  | 0, _, _=>none
  | m + 1, i14, i15=>(bif decide (i15 < (a0.length:Int)) then ((getI a0 i15).bind fun x16=>(F_0t_L1 a0 k0 m (min i14 x16) (wrap .i64 (i15 + 1)))) else (k0 i14 i15))
def F_0t (n:Nat) (a0:List Int):Option Int:=(bif decide ((a0.length:Int) < 1) then none else ((getI a0 0).bind fun x3=>(F_0t_L1 a0 (fun i14 i15=>(some i14)) n x3 1)))
theorem W_0t {F:List Int} {r:Int} {I:Value} (hF:F_0t n F = some r) (hH:H ≤ w.heap.size) (D:slRep (cInt .i64) w (Iv 0 H) F I) :
    Calls prog 300 [I].toArray w (Ret fun u N => u = .i r∧Ext w N):=by
  refine calls_ofD func300 rfl ntmps300 ?_;have G:Ext w w:=Ext.refl w;unfold F_0t at hF;refine Rc 9 (Yl rfl (yle rfl underlying53 (D.oh hH G)) (Ro 3 (Wc rfl hF ?_ ?_)))
  · intro hF;cases hF
  · intro hF;refine Rc 5 ?_;have ⟨P,M,hF⟩:=bsome hF;refine Ye rfl (yix rfl underlying53 cn_2 (D.oh hH G) M) ?_;rintro _ ⟨R,W,_,rfl,S,rfl,K⟩;refine Yl rfl (ylc 0 rfl ag_2 K rfl rfl) (Ro 10 ?_);refine WC.loopD (fun C a wl => ∃ (A:Int) (B:Int),Kn 25 [(0,I),(3,.i A),(4,.i B)] a∧Ext w wl∧w.heap.size ≤ wl.heap.size∧F_0t_L1 F (fun A B => (some A)) C A B = some r) n ?_ ?_
    · intro a hK;exact ⟨P,1,hK.sub rfl,G,Nat.le_refl _,hF⟩
    · rintro C a X ⟨A,B,hK,E,U,hF⟩;revert a;change WC _ _ _ _ _ _
      cases C with
      | zero => exact nos hF
      | succ C =>
        rw [F_0t_L1.eq_2] at hF;refine Rc 5 (Yl rfl (yle rfl underlying53 (D.oh hH E)) (Ro 3 (Wc rfl hF ?_ ?_)))
        · intro hF;refine Rc 8 ?_;have ⟨O,L,hF⟩:=bsome hF;refine Ye rfl (yix rfl underlying53 cn_2 (D.oh hH E) L) ?_;rintro _ ⟨Q,V,_,rfl,T,rfl,J⟩;refine Yl rfl (ylc 0 rfl ag_2 J rfl rfl) (Yl rfl (yld_min2 rfl rfl rfl) (Ro 10 ?_));intro a hK;exact ⟨C,Nat.le.refl,(min A O),(wrap .i64 (B + 1)),hK.sub rfl,E,(by omega),hF⟩
        · intro hF;refine Rc 12 ?_;obtain rfl:=szs hF;exact Ne rfl rfl ⟨_,rfl,rfl,E⟩
def F_1y (n:Nat) (a0:List Int):Option (List Int):=((appN (([]:List Int)) a0 8).bind fun z15=>(some z15))
theorem W_1y {B:List Int} {r:List Int} {K:Value} (hF:F_1y n B = some r) (hH:H ≤ w.heap.size) (C:slRep (cInt .i64) w (Iv 0 H) B K) :
    Calls prog 192 [K].toArray w (Ret fun u L => ∃ J,u = J∧ownR (cInt .i64) L w.heap.size (Iv 0 0) 2 r J∧Ext w L):=by
  refine calls_ofD func192 rfl ntmps192 ?_;have A:Ext w w:=Ext.refl w;unfold F_1y at hF;refine Rc 9 ?_
  rcases slRep.nil_or (C.oh hH A) with ⟨rfl,hnil⟩ | ⟨p_,n_,c_,rfl⟩
  · replace hF:(some (([]:List Int))) = some r:=(by simpa [hnil,appN] using hF);refine Yl rfl (yld_eqnil_t rfl underlying53 rfl rfl) (Ro 2 (WC.cond_t rfl (Rc 7 ?_)));obtain rfl:=szs hF;exact Ne rfl rfl ⟨_,rfl,_,rfl,ownR.nil _ _ _ _ _,A⟩
  · refine Yl rfl (yld_eqnil_f rfl underlying53 rfl rfl) (Ro 2 (WC.cond_f rfl (Rc 4 ?_)));refine Ef rfl (eff_buildSlice (c:=(cInt .i64)) (xs:=([]:List Int)) (S:=(Iv 0 0)) (uss:=[]) (out:=[]) rfl underlying53 in_2 rfl rfl (fillL_all [] rfl rfl rfl) rfl rfl rfl rfl (one_rep (uss:=[]) (show reps _ _ _ _ _ from trivial) rfl) (fun k h => by have:=h.2;omega) rfl) ?_;rintro Y a ⟨Q,I,T,W,P,O⟩;obtain ⟨E,U⟩:=Et A P;have D:=bd_of I;clear I;refine Ro 1 ?_;have ⟨b,M,hF⟩:=bsome hF;refine Ef rfl (eff_appendF (c:=(cInt .i64)) rfl underlying53 in_2 rfl rfl rfl rfl rfl O (by omega) (C.oh hH E) M) ?_;rintro X Z ⟨G,F⟩;obtain ⟨N,V⟩:=Ge E F D (by omega);have R:=Gd2 F G D (by omega) (by omega);refine Ro 4 ?_;obtain rfl:=szs hF;exact Ne rfl rfl ⟨_,rfl,_,rfl,ownR.base G (by omega),N⟩
end Go.Proofs.YtiaobghojdehbaaGreatDoor
