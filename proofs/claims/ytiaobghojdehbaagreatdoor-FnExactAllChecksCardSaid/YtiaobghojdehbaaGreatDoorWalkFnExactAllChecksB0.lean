/- The walks: every function that FnExactAllChecks reaches computes the plain function that is typed beside it; no condition. -/
import Derived.Test.YtiaobghojdehbaaGreatDoorProg
import Derived.Test.YtiaobghojdehbaaGreatDoorDat
import Derived.Test.YtiaobghojdehbaaGreatDoorShelf
set_option linter.all false
set_option maxRecDepth 20000
set_option maxHeartbeats 40000000
namespace Go.Proofs.YtiaobghojdehbaaGreatDoor
open Go Go.RowKit Go.Eng Go.Proofs.Tryz
open Go.IntKind (wrap)
variable {n H:Nat} {w:World}
theorem Tryz.hm : Tryz.prog.follows .mixedOrders = true := by kernel_rfl
theorem ag_106 : aggB prog 106 = some true := by kernel_rfl
theorem ag_124 : aggB prog 124 = some false := by kernel_rfl
theorem ag_129 : aggB prog 129 = some false := by kernel_rfl
theorem ag_131 : aggB prog 131 = some true := by kernel_rfl
theorem ag_139 : aggB prog 139 = some true := by kernel_rfl
theorem ag_140 : aggB prog 140 = some false := by kernel_rfl
theorem ag_141 : aggB prog 141 = some false := by kernel_rfl
theorem ag_143 : aggB prog 143 = some true := by kernel_rfl
theorem ag_145 : aggB prog 145 = some true := by kernel_rfl
theorem ag_148 : aggB prog 148 = some true := by kernel_rfl
theorem ag_149 : aggB prog 149 = some false := by kernel_rfl
theorem ag_186 : aggB prog 186 = some true := by kernel_rfl
theorem ag_189 : aggB prog 189 = some true := by kernel_rfl
theorem ag_2 : aggB prog 2 = some false := by kernel_rfl
theorem ag_217 : aggB prog 217 = some true := by kernel_rfl
theorem ag_22 : aggB prog 22 = some false := by kernel_rfl
theorem ag_225 : aggB prog 225 = some true := by kernel_rfl
theorem ag_227 : aggB prog 227 = some true := by kernel_rfl
theorem ag_239 : aggB prog 239 = some false := by kernel_rfl
theorem ag_24 : aggB prog 24 = some true := by kernel_rfl
theorem ag_240 : aggB prog 240 = some false := by kernel_rfl
theorem ag_242 : aggB prog 242 = some true := by kernel_rfl
theorem ag_244 : aggB prog 244 = some true := by kernel_rfl
theorem ag_246 : aggB prog 246 = some true := by kernel_rfl
theorem ag_25 : aggB prog 25 = some false := by kernel_rfl
theorem ag_26 : aggB prog 26 = some false := by kernel_rfl
theorem ag_27 : aggB prog 27 = some false := by kernel_rfl
theorem ag_278 : aggB prog 278 = some true := by kernel_rfl
theorem ag_29 : aggB prog 29 = some true := by kernel_rfl
theorem ag_299 : aggB prog 299 = some true := by kernel_rfl
theorem ag_3 : aggB prog 3 = some false := by kernel_rfl
theorem ag_30 : aggB prog 30 = some false := by kernel_rfl
theorem ag_310 : aggB prog 310 = some true := by kernel_rfl
theorem ag_312 : aggB prog 312 = some true := by kernel_rfl
theorem ag_314 : aggB prog 314 = some false := by kernel_rfl
theorem ag_316 : aggB prog 316 = some true := by kernel_rfl
theorem ag_32 : aggB prog 32 = some true := by kernel_rfl
theorem ag_34 : aggB prog 34 = some false := by kernel_rfl
theorem ag_341 : aggB prog 341 = some true := by kernel_rfl
theorem ag_37 : aggB prog 37 = some false := by kernel_rfl
theorem ag_39 : aggB prog 39 = some true := by kernel_rfl
theorem ag_4 : aggB prog 4 = some false := by kernel_rfl
theorem ag_40 : aggB prog 40 = some false := by kernel_rfl
theorem ag_41 : aggB prog 41 = some false := by kernel_rfl
theorem ag_43 : aggB prog 43 = some true := by kernel_rfl
theorem ag_44 : aggB prog 44 = some false := by kernel_rfl
theorem ag_46 : aggB prog 46 = some true := by kernel_rfl
theorem ag_53 : aggB prog 53 = some false := by kernel_rfl
theorem ag_60 : aggB prog 60 = some false := by kernel_rfl
theorem ag_61 : aggB prog 61 = some false := by kernel_rfl
theorem ag_63 : aggB prog 63 = some true := by kernel_rfl
theorem ag_69 : aggB prog 69 = some false := by kernel_rfl
theorem ag_71 : aggB prog 71 = some true := by kernel_rfl
theorem ag_87 : aggB prog 87 = some true := by kernel_rfl
theorem ag_9 : aggB prog 9 = some false := by kernel_rfl
theorem ag_91 : aggB prog 91 = some true := by kernel_rfl
theorem cn_106 : cellsN prog 106 = some 4 := by kernel_rfl
theorem cn_124 : cellsN prog 124 = some 1 := by kernel_rfl
theorem cn_129 : cellsN prog 129 = some 1 := by kernel_rfl
theorem cn_131 : cellsN prog 131 = some 6 := by kernel_rfl
theorem cn_137 : cellsN prog 137 = some 4 := by kernel_rfl
theorem cn_139 : cellsN prog 139 = some 4 := by kernel_rfl
theorem cn_140 : cellsN prog 140 = some 1 := by kernel_rfl
theorem cn_141 : cellsN prog 141 = some 1 := by kernel_rfl
theorem cn_143 : cellsN prog 143 = some 7 := by kernel_rfl
theorem cn_145 : cellsN prog 145 = some 3 := by kernel_rfl
theorem cn_148 : cellsN prog 148 = some 4 := by kernel_rfl
theorem cn_186 : cellsN prog 186 = some 4 := by kernel_rfl
theorem cn_189 : cellsN prog 189 = some 4 := by kernel_rfl
theorem cn_2 : cellsN prog 2 = some 1 := by kernel_rfl
theorem cn_217 : cellsN prog 217 = some 3 := by kernel_rfl
theorem cn_225 : cellsN prog 225 = some 2 := by kernel_rfl
theorem cn_227 : cellsN prog 227 = some 2 := by kernel_rfl
theorem cn_24 : cellsN prog 24 = some 1 := by kernel_rfl
theorem cn_242 : cellsN prog 242 = some 7 := by kernel_rfl
theorem cn_244 : cellsN prog 244 = some 3 := by kernel_rfl
theorem cn_246 : cellsN prog 246 = some 3 := by kernel_rfl
theorem cn_26 : cellsN prog 26 = some 1 := by kernel_rfl
theorem cn_278 : cellsN prog 278 = some 3 := by kernel_rfl
theorem cn_29 : cellsN prog 29 = some 3 := by kernel_rfl
theorem cn_299 : cellsN prog 299 = some 2 := by kernel_rfl
theorem cn_3 : cellsN prog 3 = some 1 := by kernel_rfl
theorem cn_310 : cellsN prog 310 = some 2 := by kernel_rfl
theorem cn_312 : cellsN prog 312 = some 4 := by kernel_rfl
theorem cn_316 : cellsN prog 316 = some 6 := by kernel_rfl
theorem cn_32 : cellsN prog 32 = some 5 := by kernel_rfl
theorem cn_34 : cellsN prog 34 = some 1 := by kernel_rfl
theorem cn_341 : cellsN prog 341 = some 3 := by kernel_rfl
theorem cn_37 : cellsN prog 37 = some 1 := by kernel_rfl
theorem cn_39 : cellsN prog 39 = some 1 := by kernel_rfl
theorem cn_4 : cellsN prog 4 = some 1 := by kernel_rfl
theorem cn_40 : cellsN prog 40 = some 1 := by kernel_rfl
theorem cn_41 : cellsN prog 41 = some 1 := by kernel_rfl
theorem cn_43 : cellsN prog 43 = some 3 := by kernel_rfl
theorem cn_44 : cellsN prog 44 = some 1 := by kernel_rfl
theorem cn_46 : cellsN prog 46 = some 5 := by kernel_rfl
theorem cn_53 : cellsN prog 53 = some 1 := by kernel_rfl
theorem cn_60 : cellsN prog 60 = some 1 := by kernel_rfl
theorem cn_63 : cellsN prog 63 = some 3 := by kernel_rfl
theorem cn_69 : cellsN prog 69 = some 1 := by kernel_rfl
theorem cn_71 : cellsN prog 71 = some 3 := by kernel_rfl
theorem cn_87 : cellsN prog 87 = some 3 := by kernel_rfl
theorem cn_9 : cellsN prog 9 = some 1 := by kernel_rfl
theorem cn_91 : cellsN prog 91 = some 3 := by kernel_rfl
theorem es_225 : eqSB prog 225 2 = true := by kernel_rfl
theorem fo_106_0 : fieldOff prog 106 0 = some 0 := by kernel_rfl
theorem fo_106_1 : fieldOff prog 106 1 = some 1 := by kernel_rfl
theorem fo_106_2 : fieldOff prog 106 2 = some 2 := by kernel_rfl
theorem fo_106_3 : fieldOff prog 106 3 = some 3 := by kernel_rfl
theorem fo_131_0 : fieldOff prog 131 0 = some 0 := by kernel_rfl
theorem fo_131_1 : fieldOff prog 131 1 = some 1 := by kernel_rfl
theorem fo_131_2 : fieldOff prog 131 2 = some 2 := by kernel_rfl
theorem fo_131_3 : fieldOff prog 131 3 = some 3 := by kernel_rfl
theorem fo_131_4 : fieldOff prog 131 4 = some 4 := by kernel_rfl
theorem fo_131_5 : fieldOff prog 131 5 = some 5 := by kernel_rfl
theorem fo_137_0 : fieldOff prog 137 0 = some 0 := by kernel_rfl
theorem fo_137_1 : fieldOff prog 137 1 = some 1 := by kernel_rfl
theorem fo_137_2 : fieldOff prog 137 2 = some 2 := by kernel_rfl
theorem fo_137_3 : fieldOff prog 137 3 = some 3 := by kernel_rfl
theorem fo_139_0 : fieldOff prog 139 0 = some 0 := by kernel_rfl
theorem fo_139_1 : fieldOff prog 139 1 = some 1 := by kernel_rfl
theorem fo_139_2 : fieldOff prog 139 2 = some 2 := by kernel_rfl
theorem fo_139_3 : fieldOff prog 139 3 = some 3 := by kernel_rfl
theorem fo_143_0 : fieldOff prog 143 0 = some 0 := by kernel_rfl
theorem fo_143_1 : fieldOff prog 143 1 = some 1 := by kernel_rfl
theorem fo_143_2 : fieldOff prog 143 2 = some 2 := by kernel_rfl
theorem fo_143_3 : fieldOff prog 143 3 = some 3 := by kernel_rfl
theorem fo_143_4 : fieldOff prog 143 4 = some 4 := by kernel_rfl
theorem fo_143_5 : fieldOff prog 143 5 = some 5 := by kernel_rfl
theorem fo_143_6 : fieldOff prog 143 6 = some 6 := by kernel_rfl
theorem fo_145_0 : fieldOff prog 145 0 = some 0 := by kernel_rfl
theorem fo_145_1 : fieldOff prog 145 1 = some 1 := by kernel_rfl
theorem fo_145_2 : fieldOff prog 145 2 = some 2 := by kernel_rfl
theorem fo_148_0 : fieldOff prog 148 0 = some 0 := by kernel_rfl
theorem fo_148_1 : fieldOff prog 148 1 = some 1 := by kernel_rfl
theorem fo_148_2 : fieldOff prog 148 2 = some 2 := by kernel_rfl
theorem fo_148_3 : fieldOff prog 148 3 = some 3 := by kernel_rfl
theorem fo_151_0 : fieldOff prog 151 0 = some 0 := by kernel_rfl
theorem fo_151_1 : fieldOff prog 151 1 = some 5 := by kernel_rfl
theorem fo_151_2 : fieldOff prog 151 2 = some 6 := by kernel_rfl
theorem fo_151_3 : fieldOff prog 151 3 = some 7 := by kernel_rfl
theorem fo_151_4 : fieldOff prog 151 4 = some 8 := by kernel_rfl
theorem fo_186_0 : fieldOff prog 186 0 = some 0 := by kernel_rfl
theorem fo_186_1 : fieldOff prog 186 1 = some 1 := by kernel_rfl
theorem fo_186_2 : fieldOff prog 186 2 = some 2 := by kernel_rfl
theorem fo_186_3 : fieldOff prog 186 3 = some 3 := by kernel_rfl
theorem fo_189_0 : fieldOff prog 189 0 = some 0 := by kernel_rfl
theorem fo_189_1 : fieldOff prog 189 1 = some 1 := by kernel_rfl
theorem fo_189_2 : fieldOff prog 189 2 = some 2 := by kernel_rfl
theorem fo_189_3 : fieldOff prog 189 3 = some 3 := by kernel_rfl
theorem fo_217_0 : fieldOff prog 217 0 = some 0 := by kernel_rfl
theorem fo_217_1 : fieldOff prog 217 1 = some 1 := by kernel_rfl
theorem fo_217_2 : fieldOff prog 217 2 = some 2 := by kernel_rfl
theorem fo_225_0 : fieldOff prog 225 0 = some 0 := by kernel_rfl
theorem fo_225_1 : fieldOff prog 225 1 = some 1 := by kernel_rfl
theorem fo_227_0 : fieldOff prog 227 0 = some 0 := by kernel_rfl
theorem fo_227_1 : fieldOff prog 227 1 = some 1 := by kernel_rfl
theorem fo_242_0 : fieldOff prog 242 0 = some 0 := by kernel_rfl
theorem fo_242_1 : fieldOff prog 242 1 = some 1 := by kernel_rfl
theorem fo_242_2 : fieldOff prog 242 2 = some 2 := by kernel_rfl
theorem fo_242_3 : fieldOff prog 242 3 = some 3 := by kernel_rfl
theorem fo_242_4 : fieldOff prog 242 4 = some 4 := by kernel_rfl
theorem fo_242_5 : fieldOff prog 242 5 = some 5 := by kernel_rfl
theorem fo_242_6 : fieldOff prog 242 6 = some 6 := by kernel_rfl
theorem fo_244_0 : fieldOff prog 244 0 = some 0 := by kernel_rfl
theorem fo_244_1 : fieldOff prog 244 1 = some 1 := by kernel_rfl
theorem fo_244_2 : fieldOff prog 244 2 = some 2 := by kernel_rfl
theorem fo_246_0 : fieldOff prog 246 0 = some 0 := by kernel_rfl
theorem fo_246_1 : fieldOff prog 246 1 = some 1 := by kernel_rfl
theorem fo_246_2 : fieldOff prog 246 2 = some 2 := by kernel_rfl
theorem fo_24_0 : fieldOff prog 24 0 = some 0 := by kernel_rfl
theorem fo_278_0 : fieldOff prog 278 0 = some 0 := by kernel_rfl
theorem fo_278_1 : fieldOff prog 278 1 = some 1 := by kernel_rfl
theorem fo_278_2 : fieldOff prog 278 2 = some 2 := by kernel_rfl
theorem fo_29_0 : fieldOff prog 29 0 = some 0 := by kernel_rfl
theorem fo_29_1 : fieldOff prog 29 1 = some 1 := by kernel_rfl
theorem fo_29_2 : fieldOff prog 29 2 = some 2 := by kernel_rfl
theorem fo_310_0 : fieldOff prog 310 0 = some 0 := by kernel_rfl
theorem fo_310_1 : fieldOff prog 310 1 = some 1 := by kernel_rfl
theorem fo_312_0 : fieldOff prog 312 0 = some 0 := by kernel_rfl
theorem fo_312_1 : fieldOff prog 312 1 = some 1 := by kernel_rfl
theorem fo_312_2 : fieldOff prog 312 2 = some 2 := by kernel_rfl
theorem fo_312_3 : fieldOff prog 312 3 = some 3 := by kernel_rfl
theorem fo_316_0 : fieldOff prog 316 0 = some 0 := by kernel_rfl
theorem fo_316_1 : fieldOff prog 316 1 = some 1 := by kernel_rfl
theorem fo_316_2 : fieldOff prog 316 2 = some 2 := by kernel_rfl
theorem fo_316_3 : fieldOff prog 316 3 = some 3 := by kernel_rfl
theorem fo_316_4 : fieldOff prog 316 4 = some 4 := by kernel_rfl
theorem fo_316_5 : fieldOff prog 316 5 = some 5 := by kernel_rfl
theorem fo_32_0 : fieldOff prog 32 0 = some 0 := by kernel_rfl
theorem fo_32_1 : fieldOff prog 32 1 = some 1 := by kernel_rfl
theorem fo_32_2 : fieldOff prog 32 2 = some 4 := by kernel_rfl
theorem fo_341_0 : fieldOff prog 341 0 = some 0 := by kernel_rfl
theorem fo_341_1 : fieldOff prog 341 1 = some 1 := by kernel_rfl
theorem fo_341_2 : fieldOff prog 341 2 = some 2 := by kernel_rfl
theorem fo_39_0 : fieldOff prog 39 0 = some 0 := by kernel_rfl
theorem fo_43_0 : fieldOff prog 43 0 = some 0 := by kernel_rfl
theorem fo_43_1 : fieldOff prog 43 1 = some 1 := by kernel_rfl
theorem fo_43_2 : fieldOff prog 43 2 = some 2 := by kernel_rfl
theorem fo_46_0 : fieldOff prog 46 0 = some 0 := by kernel_rfl
theorem fo_46_1 : fieldOff prog 46 1 = some 1 := by kernel_rfl
theorem fo_46_2 : fieldOff prog 46 2 = some 4 := by kernel_rfl
theorem fo_63_0 : fieldOff prog 63 0 = some 0 := by kernel_rfl
theorem fo_63_1 : fieldOff prog 63 1 = some 1 := by kernel_rfl
theorem fo_63_2 : fieldOff prog 63 2 = some 2 := by kernel_rfl
theorem fo_71_0 : fieldOff prog 71 0 = some 0 := by kernel_rfl
theorem fo_71_1 : fieldOff prog 71 1 = some 1 := by kernel_rfl
theorem fo_71_2 : fieldOff prog 71 2 = some 2 := by kernel_rfl
theorem fo_87_0 : fieldOff prog 87 0 = some 0 := by kernel_rfl
theorem fo_87_1 : fieldOff prog 87 1 = some 1 := by kernel_rfl
theorem fo_87_2 : fieldOff prog 87 2 = some 2 := by kernel_rfl
theorem fo_91_0 : fieldOff prog 91 0 = some 0 := by kernel_rfl
theorem fo_91_1 : fieldOff prog 91 1 = some 1 := by kernel_rfl
theorem fo_91_2 : fieldOff prog 91 2 = some 2 := by kernel_rfl
theorem gf_101 : goFn prog 101 = true := by kernel_rfl
theorem gf_102 : goFn prog 102 = true := by kernel_rfl
theorem gf_103 : goFn prog 103 = true := by kernel_rfl
theorem gf_104 : goFn prog 104 = true := by kernel_rfl
theorem gf_105 : goFn prog 105 = true := by kernel_rfl
theorem gf_106 : goFn prog 106 = true := by kernel_rfl
theorem gf_107 : goFn prog 107 = true := by kernel_rfl
theorem gf_108 : goFn prog 108 = true := by kernel_rfl
theorem gf_109 : goFn prog 109 = true := by kernel_rfl
theorem gf_11 : goFn prog 11 = true := by kernel_rfl
theorem gf_110 : goFn prog 110 = true := by kernel_rfl
theorem gf_111 : goFn prog 111 = true := by kernel_rfl
theorem gf_112 : goFn prog 112 = true := by kernel_rfl
theorem gf_113 : goFn prog 113 = true := by kernel_rfl
theorem gf_114 : goFn prog 114 = true := by kernel_rfl
theorem gf_115 : goFn prog 115 = true := by kernel_rfl
theorem gf_116 : goFn prog 116 = true := by kernel_rfl
theorem gf_117 : goFn prog 117 = true := by kernel_rfl
theorem gf_118 : goFn prog 118 = true := by kernel_rfl
theorem gf_119 : goFn prog 119 = true := by kernel_rfl
theorem gf_120 : goFn prog 120 = true := by kernel_rfl
theorem gf_121 : goFn prog 121 = true := by kernel_rfl
theorem gf_122 : goFn prog 122 = true := by kernel_rfl
theorem gf_123 : goFn prog 123 = true := by kernel_rfl
theorem gf_124 : goFn prog 124 = true := by kernel_rfl
theorem gf_125 : goFn prog 125 = true := by kernel_rfl
theorem gf_126 : goFn prog 126 = true := by kernel_rfl
theorem gf_127 : goFn prog 127 = true := by kernel_rfl
theorem gf_128 : goFn prog 128 = true := by kernel_rfl
theorem gf_129 : goFn prog 129 = true := by kernel_rfl
theorem gf_130 : goFn prog 130 = true := by kernel_rfl
theorem gf_131 : goFn prog 131 = true := by kernel_rfl
theorem gf_132 : goFn prog 132 = true := by kernel_rfl
theorem gf_134 : goFn prog 134 = true := by kernel_rfl
theorem gf_135 : goFn prog 135 = true := by kernel_rfl
theorem gf_14 : goFn prog 14 = true := by kernel_rfl
theorem gf_146 : goFn prog 146 = true := by kernel_rfl
theorem gf_148 : goFn prog 148 = true := by kernel_rfl
theorem gf_149 : goFn prog 149 = true := by kernel_rfl
theorem gf_15 : goFn prog 15 = true := by kernel_rfl
theorem gf_151 : goFn prog 151 = true := by kernel_rfl
theorem gf_154 : goFn prog 154 = true := by kernel_rfl
theorem gf_156 : goFn prog 156 = true := by kernel_rfl
theorem gf_157 : goFn prog 157 = true := by kernel_rfl
theorem gf_158 : goFn prog 158 = true := by kernel_rfl
theorem gf_159 : goFn prog 159 = true := by kernel_rfl
theorem gf_160 : goFn prog 160 = true := by kernel_rfl
theorem gf_161 : goFn prog 161 = true := by kernel_rfl
theorem gf_162 : goFn prog 162 = true := by kernel_rfl
theorem gf_163 : goFn prog 163 = true := by kernel_rfl
theorem gf_164 : goFn prog 164 = true := by kernel_rfl
theorem gf_165 : goFn prog 165 = true := by kernel_rfl
theorem gf_166 : goFn prog 166 = true := by kernel_rfl
theorem gf_167 : goFn prog 167 = true := by kernel_rfl
theorem gf_168 : goFn prog 168 = true := by kernel_rfl
theorem gf_169 : goFn prog 169 = true := by kernel_rfl
theorem gf_170 : goFn prog 170 = true := by kernel_rfl
theorem gf_171 : goFn prog 171 = true := by kernel_rfl
theorem gf_172 : goFn prog 172 = true := by kernel_rfl
theorem gf_173 : goFn prog 173 = true := by kernel_rfl
theorem gf_174 : goFn prog 174 = true := by kernel_rfl
theorem gf_175 : goFn prog 175 = true := by kernel_rfl
theorem gf_176 : goFn prog 176 = true := by kernel_rfl
theorem gf_177 : goFn prog 177 = true := by kernel_rfl
theorem gf_178 : goFn prog 178 = true := by kernel_rfl
theorem gf_179 : goFn prog 179 = true := by kernel_rfl
theorem gf_180 : goFn prog 180 = true := by kernel_rfl
theorem gf_181 : goFn prog 181 = true := by kernel_rfl
theorem gf_182 : goFn prog 182 = true := by kernel_rfl
theorem gf_183 : goFn prog 183 = true := by kernel_rfl
theorem gf_184 : goFn prog 184 = true := by kernel_rfl
theorem gf_185 : goFn prog 185 = true := by kernel_rfl
theorem gf_186 : goFn prog 186 = true := by kernel_rfl
theorem gf_187 : goFn prog 187 = true := by kernel_rfl
theorem gf_188 : goFn prog 188 = true := by kernel_rfl
theorem gf_19 : goFn prog 19 = true := by kernel_rfl
theorem gf_190 : goFn prog 190 = true := by kernel_rfl
theorem gf_192 : goFn prog 192 = true := by kernel_rfl
theorem gf_195 : goFn prog 195 = true := by kernel_rfl
theorem gf_196 : goFn prog 196 = true := by kernel_rfl
theorem gf_198 : goFn prog 198 = true := by kernel_rfl
theorem gf_199 : goFn prog 199 = true := by kernel_rfl
theorem gf_200 : goFn prog 200 = true := by kernel_rfl
theorem gf_201 : goFn prog 201 = true := by kernel_rfl
theorem gf_203 : goFn prog 203 = true := by kernel_rfl
theorem gf_205 : goFn prog 205 = true := by kernel_rfl
theorem gf_206 : goFn prog 206 = true := by kernel_rfl
theorem gf_207 : goFn prog 207 = true := by kernel_rfl
theorem gf_208 : goFn prog 208 = true := by kernel_rfl
theorem gf_209 : goFn prog 209 = true := by kernel_rfl
theorem gf_21 : goFn prog 21 = true := by kernel_rfl
theorem gf_210 : goFn prog 210 = true := by kernel_rfl
theorem gf_211 : goFn prog 211 = true := by kernel_rfl
theorem gf_212 : goFn prog 212 = true := by kernel_rfl
theorem gf_213 : goFn prog 213 = true := by kernel_rfl
theorem gf_214 : goFn prog 214 = true := by kernel_rfl
theorem gf_215 : goFn prog 215 = true := by kernel_rfl
theorem gf_216 : goFn prog 216 = true := by kernel_rfl
theorem gf_217 : goFn prog 217 = true := by kernel_rfl
theorem gf_218 : goFn prog 218 = true := by kernel_rfl
theorem gf_219 : goFn prog 219 = true := by kernel_rfl
theorem gf_22 : goFn prog 22 = true := by kernel_rfl
theorem gf_220 : goFn prog 220 = true := by kernel_rfl
theorem gf_221 : goFn prog 221 = true := by kernel_rfl
theorem gf_222 : goFn prog 222 = true := by kernel_rfl
theorem gf_223 : goFn prog 223 = true := by kernel_rfl
theorem gf_224 : goFn prog 224 = true := by kernel_rfl
theorem gf_225 : goFn prog 225 = true := by kernel_rfl
theorem gf_226 : goFn prog 226 = true := by kernel_rfl
theorem gf_227 : goFn prog 227 = true := by kernel_rfl
theorem gf_228 : goFn prog 228 = true := by kernel_rfl
theorem gf_229 : goFn prog 229 = true := by kernel_rfl
theorem gf_230 : goFn prog 230 = true := by kernel_rfl
theorem gf_231 : goFn prog 231 = true := by kernel_rfl
theorem gf_232 : goFn prog 232 = true := by kernel_rfl
theorem gf_233 : goFn prog 233 = true := by kernel_rfl
theorem gf_234 : goFn prog 234 = true := by kernel_rfl
theorem gf_235 : goFn prog 235 = true := by kernel_rfl
theorem gf_236 : goFn prog 236 = true := by kernel_rfl
theorem gf_237 : goFn prog 237 = true := by kernel_rfl
theorem gf_238 : goFn prog 238 = true := by kernel_rfl
theorem gf_239 : goFn prog 239 = true := by kernel_rfl
theorem gf_240 : goFn prog 240 = true := by kernel_rfl
theorem gf_241 : goFn prog 241 = true := by kernel_rfl
theorem gf_242 : goFn prog 242 = true := by kernel_rfl
theorem gf_243 : goFn prog 243 = true := by kernel_rfl
theorem gf_244 : goFn prog 244 = true := by kernel_rfl
theorem gf_245 : goFn prog 245 = true := by kernel_rfl
theorem gf_246 : goFn prog 246 = true := by kernel_rfl
theorem gf_247 : goFn prog 247 = true := by kernel_rfl
theorem gf_248 : goFn prog 248 = true := by kernel_rfl
theorem gf_249 : goFn prog 249 = true := by kernel_rfl
theorem gf_250 : goFn prog 250 = true := by kernel_rfl
theorem gf_251 : goFn prog 251 = true := by kernel_rfl
theorem gf_252 : goFn prog 252 = true := by kernel_rfl
theorem gf_253 : goFn prog 253 = true := by kernel_rfl
theorem gf_254 : goFn prog 254 = true := by kernel_rfl
theorem gf_255 : goFn prog 255 = true := by kernel_rfl
theorem gf_256 : goFn prog 256 = true := by kernel_rfl
theorem gf_257 : goFn prog 257 = true := by kernel_rfl
theorem gf_258 : goFn prog 258 = true := by kernel_rfl
theorem gf_259 : goFn prog 259 = true := by kernel_rfl
theorem gf_26 : goFn prog 26 = true := by kernel_rfl
theorem gf_260 : goFn prog 260 = true := by kernel_rfl
theorem gf_261 : goFn prog 261 = true := by kernel_rfl
theorem gf_262 : goFn prog 262 = true := by kernel_rfl
theorem gf_263 : goFn prog 263 = true := by kernel_rfl
theorem gf_264 : goFn prog 264 = true := by kernel_rfl
theorem gf_265 : goFn prog 265 = true := by kernel_rfl
theorem gf_266 : goFn prog 266 = true := by kernel_rfl
theorem gf_267 : goFn prog 267 = true := by kernel_rfl
theorem gf_268 : goFn prog 268 = true := by kernel_rfl
theorem gf_269 : goFn prog 269 = true := by kernel_rfl
theorem gf_270 : goFn prog 270 = true := by kernel_rfl
theorem gf_271 : goFn prog 271 = true := by kernel_rfl
theorem gf_272 : goFn prog 272 = true := by kernel_rfl
theorem gf_273 : goFn prog 273 = true := by kernel_rfl
theorem gf_274 : goFn prog 274 = true := by kernel_rfl
theorem gf_275 : goFn prog 275 = true := by kernel_rfl
theorem gf_276 : goFn prog 276 = true := by kernel_rfl
theorem gf_285 : goFn prog 285 = true := by kernel_rfl
theorem gf_286 : goFn prog 286 = true := by kernel_rfl
theorem gf_287 : goFn prog 287 = true := by kernel_rfl
theorem gf_288 : goFn prog 288 = true := by kernel_rfl
theorem gf_289 : goFn prog 289 = true := by kernel_rfl
theorem gf_29 : goFn prog 29 = true := by kernel_rfl
theorem gf_290 : goFn prog 290 = true := by kernel_rfl
theorem gf_291 : goFn prog 291 = true := by kernel_rfl
theorem gf_297 : goFn prog 297 = true := by kernel_rfl
theorem gf_298 : goFn prog 298 = true := by kernel_rfl
theorem gf_299 : goFn prog 299 = true := by kernel_rfl
theorem gf_300 : goFn prog 300 = true := by kernel_rfl
theorem gf_301 : goFn prog 301 = true := by kernel_rfl
theorem gf_302 : goFn prog 302 = true := by kernel_rfl
theorem gf_303 : goFn prog 303 = true := by kernel_rfl
theorem gf_307 : goFn prog 307 = true := by kernel_rfl
theorem gf_308 : goFn prog 308 = true := by kernel_rfl
theorem gf_32 : goFn prog 32 = true := by kernel_rfl
theorem gf_34 : goFn prog 34 = true := by kernel_rfl
theorem gf_41 : goFn prog 41 = true := by kernel_rfl
theorem gf_42 : goFn prog 42 = true := by kernel_rfl
theorem gf_43 : goFn prog 43 = true := by kernel_rfl
theorem gf_44 : goFn prog 44 = true := by kernel_rfl
theorem gf_45 : goFn prog 45 = true := by kernel_rfl
theorem gf_46 : goFn prog 46 = true := by kernel_rfl
theorem gf_47 : goFn prog 47 = true := by kernel_rfl
theorem gf_48 : goFn prog 48 = true := by kernel_rfl
theorem gf_49 : goFn prog 49 = true := by kernel_rfl
theorem gf_50 : goFn prog 50 = true := by kernel_rfl
theorem gf_51 : goFn prog 51 = true := by kernel_rfl
theorem gf_52 : goFn prog 52 = true := by kernel_rfl
theorem gf_53 : goFn prog 53 = true := by kernel_rfl
theorem gf_54 : goFn prog 54 = true := by kernel_rfl
theorem gf_55 : goFn prog 55 = true := by kernel_rfl
theorem gf_56 : goFn prog 56 = true := by kernel_rfl
theorem gf_57 : goFn prog 57 = true := by kernel_rfl
theorem gf_58 : goFn prog 58 = true := by kernel_rfl
theorem gf_59 : goFn prog 59 = true := by kernel_rfl
theorem gf_60 : goFn prog 60 = true := by kernel_rfl
theorem gf_61 : goFn prog 61 = true := by kernel_rfl
theorem gf_62 : goFn prog 62 = true := by kernel_rfl
theorem gf_70 : goFn prog 70 = true := by kernel_rfl
theorem gf_71 : goFn prog 71 = true := by kernel_rfl
theorem gf_75 : goFn prog 75 = true := by kernel_rfl
theorem gf_79 : goFn prog 79 = true := by kernel_rfl
theorem gf_80 : goFn prog 80 = true := by kernel_rfl
theorem gf_85 : goFn prog 85 = true := by kernel_rfl
theorem gf_86 : goFn prog 86 = true := by kernel_rfl
theorem gf_89 : goFn prog 89 = true := by kernel_rfl
theorem gf_9 : goFn prog 9 = true := by kernel_rfl
theorem gf_91 : goFn prog 91 = true := by kernel_rfl
theorem gf_92 : goFn prog 92 = true := by kernel_rfl
theorem gf_93 : goFn prog 93 = true := by kernel_rfl
theorem gf_94 : goFn prog 94 = true := by kernel_rfl
theorem gf_96 : goFn prog 96 = true := by kernel_rfl
theorem gf_99 : goFn prog 99 = true := by kernel_rfl
theorem in_106 : infoN prog 106 = some ([.i 0, .i 0, .i 0, .i 0], 4, 32) := by kernel_rfl
theorem in_128 : infoN prog 128 = some ([.i 0, .i 0, .i 0, .i 0], 4, 32) := by kernel_rfl
theorem in_131 : infoN prog 131 = some ([.i 0, .i 0, .i 0, .i 0, .slice none 0 0, .slice none 0 0], 6, 80) := by kernel_rfl
theorem in_137 : infoN prog 137 = some ([.i 0, .i 0, .i 0, .bool false], 4, 32) := by kernel_rfl
theorem in_139 : infoN prog 139 = some ([.string ByteArray.empty, .i 0, .i 0, .bool false], 4, 40) := by kernel_rfl
theorem in_143 : infoN prog 143 = some ([.string ByteArray.empty, .i 0, .slice none 0 0, .slice none 0 0, .slice none 0 0, .i 0, .i 0], 7, 112) := by kernel_rfl
theorem in_145 : infoN prog 145 = some ([.string ByteArray.empty, .i 0, .slice none 0 0], 3, 48) := by kernel_rfl
theorem in_148 : infoN prog 148 = some ([.i 0, .i 0, .i 0, .bool false], 4, 32) := by kernel_rfl
theorem in_189 : infoN prog 189 = some ([.slice none 0 0, .slice none 0 0, .slice none 0 0, .slice none 0 0], 4, 96) := by kernel_rfl
theorem in_2 : infoN prog 2 = some ([.i 0], 1, 8) := by kernel_rfl
theorem in_217 : infoN prog 217 = some ([.string ByteArray.empty, .i 0, .i 0], 3, 32) := by kernel_rfl
theorem in_225 : infoN prog 225 = some ([.i 0, .i 0], 2, 16) := by kernel_rfl
theorem in_278 : infoN prog 278 = some ([.slice none 0 0, .slice none 0 0, .slice none 0 0], 3, 72) := by kernel_rfl
theorem in_299 : infoN prog 299 = some ([.i 0, .i 0], 2, 16) := by kernel_rfl
theorem in_3 : infoN prog 3 = some ([.i 0], 1, 8) := by kernel_rfl
theorem in_310 : infoN prog 310 = some ([.i 0, .i 0], 2, 16) := by kernel_rfl
theorem in_4 : infoN prog 4 = some ([.bool false], 1, 1) := by kernel_rfl
theorem in_5 : infoN prog 5 = some ([.int .u8 0], 1, 1) := by kernel_rfl
theorem in_53 : infoN prog 53 = some ([.slice none 0 0], 1, 24) := by kernel_rfl
theorem in_9 : infoN prog 9 = some ([.string ByteArray.empty], 1, 16) := by kernel_rfl
theorem oc_225 : ∀ (a0 : Int) (a1 : Int), okCT prog 225 [.i a0, .i a1] = true := by intros; kernel_rfl
theorem pl_106 : placesN prog 106 = some [(0, 1), (1, 1), (2, 1), (3, 1)] := by kernel_rfl
theorem pl_128 : placesN prog 128 = some [(0, 1), (1, 1), (2, 1), (3, 1)] := by kernel_rfl
theorem pl_131 : placesN prog 131 = some [(0, 1), (1, 1), (2, 1), (3, 1), (4, 1), (5, 1)] := by kernel_rfl
theorem pl_137 : placesN prog 137 = some [(0, 1), (1, 1), (2, 1), (3, 1)] := by kernel_rfl
theorem pl_148 : placesN prog 148 = some [(0, 1), (1, 1), (2, 1), (3, 1)] := by kernel_rfl
theorem pl_151 : placesN prog 151 = some [(0, 5), (5, 1), (6, 1), (7, 1), (8, 1), (9, 1)] := by kernel_rfl
theorem pl_225 : placesN prog 225 = some [(0, 1), (1, 1)] := by kernel_rfl
theorem pl_299 : placesN prog 299 = some [(0, 1), (1, 1)] := by kernel_rfl
theorem pl_310 : placesN prog 310 = some [(0, 1), (1, 1)] := by kernel_rfl
theorem zn_106 : zeroN prog 106 = some [.i 0, .i 0, .i 0, .i 0] := by kernel_rfl
theorem zn_128 : zeroN prog 128 = some [.i 0, .i 0, .i 0, .i 0] := by kernel_rfl
theorem zn_131 : zeroN prog 131 = some [.i 0, .i 0, .i 0, .i 0, .slice none 0 0, .slice none 0 0] := by kernel_rfl
theorem zn_137 : zeroN prog 137 = some [.i 0, .i 0, .i 0, .bool false] := by kernel_rfl
theorem zn_139 : zeroN prog 139 = some [.string ByteArray.empty, .i 0, .i 0, .bool false] := by kernel_rfl
theorem zn_143 : zeroN prog 143 = some [.string ByteArray.empty, .i 0, .slice none 0 0, .slice none 0 0, .slice none 0 0, .i 0, .i 0] := by kernel_rfl
theorem zn_145 : zeroN prog 145 = some [.string ByteArray.empty, .i 0, .slice none 0 0] := by kernel_rfl
theorem zn_148 : zeroN prog 148 = some [.i 0, .i 0, .i 0, .bool false] := by kernel_rfl
theorem zn_151 : zeroN prog 151 = some [.slice none 0 0, .slice none 0 0, .slice none 0 0, .slice none 0 0, .slice none 0 0, .slice none 0 0, .slice none 0 0, .slice none 0 0, .slice none 0 0, .slice none 0 0] := by kernel_rfl
theorem zn_189 : zeroN prog 189 = some [.slice none 0 0, .slice none 0 0, .slice none 0 0, .slice none 0 0] := by kernel_rfl
theorem zn_217 : zeroN prog 217 = some [.string ByteArray.empty, .i 0, .i 0] := by kernel_rfl
theorem zn_225 : zeroN prog 225 = some [.i 0, .i 0] := by kernel_rfl
theorem zn_278 : zeroN prog 278 = some [.slice none 0 0, .slice none 0 0, .slice none 0 0] := by kernel_rfl
theorem zn_299 : zeroN prog 299 = some [.i 0, .i 0] := by kernel_rfl
theorem zn_310 : zeroN prog 310 = some [.i 0, .i 0] := by kernel_rfl
theorem zn_39 : zeroN prog 39 = some [.slice none 0 0] := by kernel_rfl
theorem zn_43 : zeroN prog 43 = some [.slice none 0 0, .slice none 0 0, .slice none 0 0] := by kernel_rfl
theorem zn_46 : zeroN prog 46 = some [.slice none 0 0, .slice none 0 0, .slice none 0 0, .slice none 0 0, .slice none 0 0] := by kernel_rfl
theorem zn_71 : zeroN prog 71 = some [.slice none 0 0, .slice none 0 0, .slice none 0 0] := by kernel_rfl
theorem zn_91 : zeroN prog 91 = some [.i 0, .i 0, .i 0] := by kernel_rfl
def F_3h (n : Nat) (a0_s : ByteArray) (a1_cutset : ByteArray) : Option ByteArray := if a0_s.size ≤ 9223372036854775807 ∧ a1_cutset.size < 4294967281 ∧ (a1_cutset.data.toList.all fun b => decide (b.toNat < 128)) = true then some ⟨(Lib.trimS a0_s.data.toList a1_cutset.data.toList).toArray⟩ else none
theorem W_3h {n : Nat} {a0_s : ByteArray} {a1_cutset : ByteArray} {r : ByteArray} {w : World} (hF : F_3h n a0_s a1_cutset = some r) :
    Calls prog 264 [.string a0_s, .string a1_cutset].toArray w (Ret fun u w2 => u = .string r ∧ Ext w w2) := by
  unfold F_3h at hF
  split at hF
  · rename_i h
    obtain rfl := Option.some.inj hF
    refine (strings_Trim_ascii a0_s a1_cutset w h.1 h.2.1 (fun j b hb => of_decide_eq_true (List.all_eq_true.1 h.2.2 b (List.mem_of_getElem? hb)))).mono ?_
    rintro e w' ⟨rfl, hB⟩
    exact ⟨_, rfl, rfl, hB⟩
  · cases hF
def F_53 (n : Nat) (a0_s : ByteArray) (a1_c : Int) : Option Int := some (Lib.indexByte a0_s.data.toList a1_c.toNat.toUInt8)
theorem W_53 {n : Nat} {a0_s : ByteArray} {a1_c : Int} {r : Int} {w : World} (hF : F_53 n a0_s a1_c = some r) :
    Calls prog 265 [.string a0_s, .int .u8 a1_c].toArray w (Ret fun u w2 => u = .i r ∧ Ext w w2) := by
  obtain rfl := Option.some.inj hF
  refine (strings_IndexByte a0_s a1_c w).mono ?_
  rintro e w' ⟨rfl, rfl⟩
  exact ⟨_, rfl, rfl, Ext.refl _⟩
def F_0q_L1 (a0:List ByteArray) (a1:ByteArray) (k0:Int→Option Int):Nat→Int→Option Int
  | 0, _=>none
  | m + 1, i5=>(bif decide (i5 < (a0.length:Int)) then ((getI a0 i5).bind fun x6=>(bif (a1.toList == x6.toList) then (some i5) else (F_0q_L1 a0 a1 k0 m (wrap .i64 (i5 + 1))))) else (k0 i5))
def F_0q (n:Nat) (a0:List ByteArray) (a1:ByteArray):Option Int:=(F_0q_L1 a0 a1 (fun i5=>(some (-1))) n 0)
theorem W_0q {C:List ByteArray} {D:ByteArray} {r:Int} {F:Value} (hF:F_0q n C D = some r) (hH:H ≤ w.heap.size) (G:slRep cStr w (Iv 0 H) C F) :
    Calls prog 269 [F,.string D].toArray w (Ret fun u L => u = .i r∧Ext w L):=by
  refine calls_ofD func269 rfl ntmps269 ?_;have I:=Ext.refl w;unfold F_0q at hF;refine Rc 9 (Yl rfl (yle rfl underlying26 (G.oh hH I)) (Ro 4 ?_));refine WC.loopD (fun B a wl => ∃ (A:Int),Kn 19 [(0,F),(1,.string D),(7,.i ((C.length:Int))),(8,.i A)] a∧Ext w wl∧w.heap.size ≤ wl.heap.size∧F_0q_L1 C D (fun A => (some (-1))) B A = some r) n ?_ ?_
  · intro a hK;exact ⟨0,hK.sub rfl,I,Nat.le_refl _,hF⟩
  · rintro B a Q ⟨A,hK,E,O,hF⟩;revert a;change WC _ _ _ _ _ _
    cases B with
    | zero => exact nos hF
    | succ B =>
      rw [F_0q_L1.eq_2] at hF;refine Rc 6 (Wc rfl hF ?_ ?_)
      · intro hF;refine Rc 15 ?_;have ⟨R,K,hF⟩:=bsome hF;refine Ye rfl (yix rfl underlying26 cn_9 (G.oh hH E) K) ?_;rintro _ ⟨M,P,_,rfl,N,rfl,J⟩;refine Yl rfl (ylc 0 rfl ag_9 J rfl rfl) (Ro 3 (Wc rfl hF ?_ ?_))
        · intro hF;refine Rc 12 ?_;cases szs hF;exact Ne rfl rfl ⟨_,rfl,rfl,E⟩
        · intro hF;refine Rc 8 ?_;intro a hK;exact ⟨B,nr,(wrap .i64 (A + 1)),hK.sub rfl,E,(by omega),hF⟩
      · intro hF;refine Rc 11 ?_;cases szs hF;exact Ne rfl rfl ⟨_,rfl,rfl,E⟩
def F_3i (n:Nat) (a0:List ByteArray) (a1:ByteArray):Option Bool:=((F_0q n a0 a1).bind fun r3=>(some (decide (r3 ≥ 0))))
theorem W_3i {A:List ByteArray} {B:ByteArray} {r:Bool} {D:Value} (hF:F_3i n A B = some r) (hH:H ≤ w.heap.size) (E:slRep cStr w (Iv 0 H) A D) :
    Calls prog 253 [D,.string B].toArray w (Ret fun u J => u = .bool r∧Ext w J):=by
  refine calls_ofD func253 rfl ntmps253 ?_;have C:=Ext.refl w;unfold F_3i at hF;refine Rc 9 ?_;have ⟨L,G,hF⟩:=bsome hF;refine Ef rfl (eca rfl gf_269 (W_0q G (by omega) (E.oh hH C) :)) ?_;rintro _ M ⟨rfl,I⟩;have ⟨F,K⟩:=Et C I;refine Ro 5 ?_;cases szs hF;exact Ne rfl rfl ⟨_,rfl,rfl,F⟩
def F_0r_L1 (a0:List Int) (k0:Int→Int→Option Int):Nat→Int→Int→Option Int
  | 0, _, _=>none
  | m + 1, i14, i15=>(bif decide (i15 < (a0.length:Int)) then ((getI a0 i15).bind fun x16=>(F_0r_L1 a0 k0 m (min i14 x16) (wrap .i64 (i15 + 1)))) else (k0 i14 i15))
def F_0r (n:Nat) (a0:List Int):Option Int:=(bif decide ((a0.length:Int) < 1) then none else ((getI a0 0).bind fun x3=>(F_0r_L1 a0 (fun i14 i15=>(some i14)) n x3 1)))
theorem W_0r {F:List Int} {r:Int} {I:Value} (hF:F_0r n F = some r) (hH:H ≤ w.heap.size) (D:slRep (cInt .i64) w (Iv 0 H) F I) :
    Calls prog 300 [I].toArray w (Ret fun u N => u = .i r∧Ext w N):=by
  refine calls_ofD func300 rfl ntmps300 ?_;have G:=Ext.refl w;unfold F_0r at hF;refine Rc 9 (Yl rfl (yle rfl underlying53 (D.oh hH G)) (Ro 3 (Wc rfl hF ?_ ?_)))
  · intro hF;cases hF
  · intro hF;refine Rc 5 ?_;have ⟨P,M,hF⟩:=bsome hF;refine Ye rfl (yix rfl underlying53 cn_2 (D.oh hH G) M) ?_;rintro _ ⟨R,W,_,rfl,S,rfl,K⟩;refine Yl rfl (ylc 0 rfl ag_2 K rfl rfl) (Ro 10 ?_);refine WC.loopD (fun C a wl => ∃ (A:Int) (B:Int),Kn 25 [(0,I),(3,.i A),(4,.i B)] a∧Ext w wl∧w.heap.size ≤ wl.heap.size∧F_0r_L1 F (fun A B => (some A)) C A B = some r) n ?_ ?_
    · intro a hK;exact ⟨P,1,hK.sub rfl,G,Nat.le_refl _,hF⟩
    · rintro C a X ⟨A,B,hK,E,U,hF⟩;revert a;change WC _ _ _ _ _ _
      cases C with
      | zero => exact nos hF
      | succ C =>
        rw [F_0r_L1.eq_2] at hF;refine Rc 5 (Yl rfl (yle rfl underlying53 (D.oh hH E)) (Ro 3 (Wc rfl hF ?_ ?_)))
        · intro hF;refine Rc 8 ?_;have ⟨O,L,hF⟩:=bsome hF;refine Ye rfl (yix rfl underlying53 cn_2 (D.oh hH E) L) ?_;rintro _ ⟨Q,V,_,rfl,T,rfl,J⟩;refine Yl rfl (ylc 0 rfl ag_2 J rfl rfl) (Yl rfl (yld_min2 rfl rfl rfl) (Ro 10 ?_));intro a hK;exact ⟨C,nr,(min A O),(wrap .i64 (B + 1)),hK.sub rfl,E,(by omega),hF⟩
        · intro hF;refine Rc 12 ?_;cases szs hF;exact Ne rfl rfl ⟨_,rfl,rfl,E⟩
def F_4j (n:Nat) (a0:List Int):Option (List Int):=((appN (([]:List Int)) a0 8).bind fun z15=>(some z15))
theorem W_4j {B:List Int} {r:List Int} {K:Value} (hF:F_4j n B = some r) (hH:H ≤ w.heap.size) (C:slRep (cInt .i64) w (Iv 0 H) B K) :
    Calls prog 192 [K].toArray w (Ret fun u L => ∃ J,u = J∧ownR (cInt .i64) L w.heap.size (Iv 0 0) 2 r J∧Ext w L):=by
  refine calls_ofD func192 rfl ntmps192 ?_;have A:=Ext.refl w;unfold F_4j at hF;refine Rc 9 ?_
  rcases slRep.nil_or (C.oh hH A) with ⟨rfl,hnil⟩ | ⟨p_,n_,c_,rfl⟩
  · replace hF:(some (([]:List Int))) = some r:=(by simpa [hnil,appN] using hF);refine Yl rfl (yld_eqnil_t rfl underlying53 rfl rfl) (Ro 2 (WC.cond_t rfl (Rc 7 ?_)));cases szs hF;exact Ne rfl rfl ⟨_,rfl,_,rfl,ownR.nil _ _ _ _ _,A⟩
  · refine Yl rfl (yld_eqnil_f rfl underlying53 rfl rfl) (Ro 2 (WC.cond_f rfl (Rc 4 ?_)));refine Ef rfl (eff_buildSlice (c:=(cInt .i64)) (xs:=([]:List Int)) (S:=(Iv 0 0)) (uss:=[]) (out:=[]) rfl underlying53 in_2 rfl rfl (fillL_all [] rfl rfl rfl) rfl rfl rfl rfl (one_rep (uss:=[]) (show reps _ _ _ _ _ from trivial) rfl) (fun k h => by have:=h.2;omega) rfl) ?_;rintro Y a ⟨Q,I,T,W,P,O⟩;have ⟨E,U⟩:=Et A P;have D:=bd_of I;clear I;refine Ro 1 ?_;have ⟨b,M,hF⟩:=bsome hF;refine Ef rfl (eff_appendF (c:=(cInt .i64)) rfl underlying53 in_2 rfl rfl rfl rfl rfl O (by omega) (C.oh hH E) M) ?_;rintro X Z ⟨G,F⟩;have ⟨N,V⟩:=Ge E F D (by omega);have R:=Gd2 F G D (by omega) (by omega);refine Ro 4 ?_;cases szs hF;exact Ne rfl rfl ⟨_,rfl,_,rfl,ownR.base G (by omega),N⟩
def F_32 (n:Nat) (a0:Int):Option Bool:=(some ((a0 != a0)))
theorem W_32 {A:Int} {r:Bool} (hF:F_32 n A = some r) :
    Calls prog 290 [.i A].toArray w (Ret fun u C => u = .bool r∧Ext w C):=by
  refine calls_ofD func290 rfl ntmps290 ?_;have B:=Ext.refl w;unfold F_32 at hF;refine Rc 14 ?_;cases szs hF;exact Ne rfl rfl ⟨_,rfl,rfl,B⟩
def F_4k (n:Nat) (a0:Int) (a1:Int):Option Bool:=((F_32 n a0).bind fun r1=>((bif r1 then ((F_32 n a1).bind fun r7=>(some (!r7))) else (some false)).bind fun c7=>(some ((c7 || (decide (a0 < a1)))))))
theorem W_4k {A:Int} {B:Int} {r:Bool} (hF:F_4k n A B = some r) :
    Calls prog 272 [.i A,.i B].toArray w (Ret fun u S => u = .bool r∧Ext w S):=by
  refine calls_ofD func272 rfl ntmps272 ?_;have I:=Ext.refl w;unfold F_4k at hF;refine Rc 8 ?_;have ⟨Q,M,hF⟩:=bsome hF;refine Ef rfl (eca rfl gf_290 (W_32 M :)) ?_;rintro _ T ⟨rfl,P⟩;have ⟨G,Y⟩:=Et I P;refine Ro 1 ?_;have ⟨F,C,hF⟩:=bsome hF;refine TL.cutD 4 [(0,.i A),(1,.i B),(11,.bool F)] (fun w' => Ext T w') ?_ ?_
  · rcases bft Q with E | E
    · replace C:=bif_t E C;refine Kc 7 E rfl ?_;replace hF:=C;refine Ro 1 ?_;have ⟨Z,L,hF⟩:=bsome hF;refine Ef rfl (eca rfl gf_290 (W_32 L :)) ?_;rintro _ c ⟨rfl,H⟩;have ⟨U,V⟩:=Et G H;refine Ro 1 ?_;cases szs hF;exact Ro 1 (TL.nil fun a h => ⟨h.sub rfl,H⟩)
    · replace C:=bif_f E C;refine Kc 7 E rfl (Ro 3 ?_);obtain rfl:=szs C;exact Ro 1 (TL.nil fun a h => ⟨h.sub rfl,Ext.refl _⟩)
  intro R N;have ⟨J,W⟩:=Et G N;refine Ro 1 ?_;refine TL.cutD 4 [(16,.bool ((F || (decide (A < B)))))] (fun w' => Ext R w') ?_ ?_
  · rcases bft F with D | D
    · exact Kc 12 D rfl (Ro 4 (Kc 16 (ort (b:=decide (A < B)) D) rfl (TL.nil fun a h => ⟨h.sub rfl,Ext.refl _⟩)))
    · exact Kc 12 D rfl (Ro 4 (Kc 16 (orf (b:=decide (A < B)) D) rfl (TL.nil fun a h => ⟨h.sub rfl,Ext.refl _⟩)))
  intro d O;have ⟨K,X⟩:=Et J O;refine Ro 4 ?_;cases szs hF;exact Ne rfl rfl ⟨_,rfl,rfl,K⟩
def F_22 (n:Nat) (a0:Int):Option Bool:=(some ((a0 != a0)))
theorem W_22 {A:Int} {r:Bool} (hF:F_22 n A = some r) :
    Calls prog 273 [.i A].toArray w (Ret fun u C => u = .bool r∧Ext w C):=by
  refine calls_ofD func273 rfl ntmps273 ?_;have B:=Ext.refl w;unfold F_22 at hF;refine Rc 14 ?_;cases szs hF;exact Ne rfl rfl ⟨_,rfl,rfl,B⟩
def F_0e_L1 (n:Nat) (a0:List Int) (a1:Int) (k0:Int→Int→Option (Int × Bool)):Nat→Int→Int→Option (Int × Bool)
  | 0, _, _=>none
  | m + 1, i5, i6=>(bif decide (i5 < i6) then ((getI a0 (wrap .i64 (shrK .u64 (IntKind.wrap IntKind.u64 (wrap .i64 (i5 + i6))) 1))).bind fun x7=>((F_4k n x7 a1).bind fun r16=>(bif r16 then (F_0e_L1 n a0 a1 k0 m (wrap .i64 ((wrap .i64 (shrK .u64 (IntKind.wrap IntKind.u64 (wrap .i64 (i5 + i6))) 1)) + 1)) i6) else (F_0e_L1 n a0 a1 k0 m i5 (wrap .i64 (shrK .u64 (IntKind.wrap IntKind.u64 (wrap .i64 (i5 + i6))) 1)))))) else (k0 i5 i6))
def F_0e (n:Nat) (a0:List Int) (a1:Int):Option (Int × Bool):=(F_0e_L1 n a0 a1 (fun i5 i6=>((bif decide (i5 < (a0.length:Int)) then ((getI a0 i5).bind fun x7=>((bif (x7 == a1) then (some true) else ((getI a0 i5).bind fun x16=>((F_22 n x16).bind fun r25=>((bif r25 then ((F_22 n a1).bind fun r31=>(some r31)) else (some false)).bind fun c31=>(some c31))))).bind fun c16=>(some c16))) else (some false)).bind fun c7=>(some (i5, c7)))) n 0 ((a0.length:Int)))
theorem W_0e {B:List Int} {C:Int} {r:Int × Bool} {O:Value} (hF:F_0e n B C = some r) (hH:H ≤ w.heap.size) (N:slRep (cInt .i64) w (Iv 0 H) B O) :
    Calls prog 260 [O,.i C].toArray w (Ret fun u y => u = .tuple #[.i r.1,.bool r.2]∧Ext w y):=by
  refine calls_ofD func260 rfl ntmps260 ?_;have P:=Ext.refl w;unfold F_0e at hF;refine Rc 9 (Yl rfl (yle rfl underlying53 (N.oh hH P)) (Ro 12 ?_));refine WC.loopD (fun J a wl => ∃ (A:Int) (E:Int),Kn 54 [(0,O),(1,.i C),(6,.i ((B.length:Int))),(7,.i A),(8,.i E)] a∧Ext w wl∧w.heap.size ≤ wl.heap.size∧F_0e_L1 n B C (fun A E => (Option.bind (bif decide (A < (B.length:Int)) then (Option.bind (getI B A) fun C0 => (Option.bind (bif (C0 == C) then (some true) else (Option.bind (getI B A) fun A0 => (Option.bind (F_22 n A0) fun t => (Option.bind (bif t then (Option.bind (F_22 n C) fun v => (some v)) else (some false)) fun Z => (some Z))))) fun X => (some X))) else (some false)) fun d => (some (A,d)))) J A E = some r) n ?_ ?_
  · intro a hK;exact ⟨0,((B.length:Int)),hK.sub rfl,P,Nat.le_refl _,hF⟩
  · rintro J a W ⟨A,E,hK,D,S0,hF⟩;revert a;change WC _ _ _ _ _ _
    cases J with
    | zero => exact nos hF
    | succ J =>
      rw [F_0e_L1.eq_2] at hF;refine Rc 8 (Wc rfl hF ?_ ?_)
      · intro hF;refine Rc 8 (Yl rfl (yld_conv rfl underlying3 underlying273 rfl) (Yl rfl (yld_shr rfl rfl rfl (by decide)) (Yl rfl (yld_conv rfl underlying273 underlying3 rfl) (Ro 7 ?_))));have ⟨e0,p,hF⟩:=bsome hF;refine Ye rfl (yix rfl underlying53 cn_2 (N.oh hH D) p) ?_;rintro _ ⟨D0,T0,_,rfl,J0,rfl,e⟩;refine Yl rfl (ylc 0 rfl ag_2 e rfl rfl) (Ro 1 ?_);have ⟨W0,j,hF⟩:=bsome hF;refine Ef rfl (eca rfl gf_272 (W_4k j :)) ?_;rintro _ Y0 ⟨rfl,m⟩;have ⟨Q,M0⟩:=Et D m;refine Ro 2 (Wc rfl hF ?_ ?_)
        · intro hF;refine Rc 7 ?_;intro a hK;exact ⟨J,nr,(wrap .i64 ((wrap .i64 (shrK .u64 (IntKind.wrap IntKind.u64 (wrap .i64 (A + E))) 1)) + 1)),E,hK.sub rfl,Q,(by omega),hF⟩
        · intro hF;refine Rc 6 ?_;intro a hK;exact ⟨J,nr,A,(wrap .i64 (shrK .u64 (IntKind.wrap IntKind.u64 (wrap .i64 (A + E))) 1)),hK.sub rfl,Q,(by omega),hF⟩
      · intro hF;refine Rc 12 ?_;have ⟨Y,F,hF⟩:=bsome hF;refine TL.cutD 18 [(31,.i A),(53,.bool Y)] (fun w' => Ext W w') ?_ ?_
        · rcases bft (decide (A < (B.length:Int))) with K | K
          · replace F:=bif_t K F;refine Kc 35 K rfl ?_;replace hF:=F;refine Ro 2 ?_;have ⟨B0,q,hF⟩:=bsome hF;refine Ye rfl (yix rfl underlying53 cn_2 (N.oh hH D) q) ?_;rintro _ ⟨E0,U0,_,rfl,K0,rfl,f⟩;refine Yl rfl (ylc 0 rfl ag_2 f rfl rfl) (Ro 3 ?_);have ⟨b,G,hF⟩:=bsome hF;refine TL.cutD 10 [(31,.i A),(35,.bool true),(52,.bool b)] (fun w' => Ext W w') ?_ ?_
            · rcases bft ((B0 == C)) with L | L
              · replace G:=bif_t L G;refine Kc 42 L rfl (Ro 9 ?_);obtain rfl:=szs G;exact Ro 1 (TL.nil fun a h => ⟨h.sub rfl,Ext.refl _⟩)
              · replace G:=bif_f L G;refine Kc 42 L rfl ?_;replace hF:=G;refine Ro 2 ?_;have ⟨d0,s,hF⟩:=bsome hF;refine Ye rfl (yix rfl underlying53 cn_2 (N.oh hH D) s) ?_;rintro _ ⟨F0,V0,_,rfl,L0,rfl,g⟩;refine Yl rfl (ylc 0 rfl ag_2 g rfl rfl) ?_;have ⟨x,k,hF⟩:=bsome hF;refine Ef rfl (eca rfl gf_273 (W_22 k :)) ?_;rintro _ z ⟨rfl,S⟩;have ⟨R,N0⟩:=Et D S;refine Ro 1 ?_;have ⟨c,I,hF⟩:=bsome hF;refine TL.cutD 3 [(31,.i A),(35,.bool true),(42,.bool false),(51,.bool c)] (fun w' => Ext z w') ?_ ?_
                · rcases bft x with M | M
                  · replace I:=bif_t M I;refine Kc 48 M rfl ?_;replace hF:=I;refine Ro 1 ?_;have ⟨X0,l,hF⟩:=bsome hF;refine Ef rfl (eca rfl gf_273 (W_22 l :)) ?_;rintro _ Z0 ⟨rfl,T⟩;have ⟨G0,O0⟩:=Et R T;cases szs hF;exact Ro 1 (TL.nil fun a h => ⟨h.sub rfl,T⟩)
                  · replace I:=bif_f M I;refine Kc 48 M rfl (Ro 2 ?_);obtain rfl:=szs I;exact Ro 1 (TL.nil fun a h => ⟨h.sub rfl,Ext.refl _⟩)
                intro a0 U;have ⟨H0,P0⟩:=Et R U;cases szs hF;exact Ro 1 (TL.nil fun a h => ⟨h.sub rfl,(Ext.trans S U)⟩)
            intro b0 V;have ⟨I0,Q0⟩:=Et D V;cases szs hF;exact Ro 1 (TL.nil fun a h => ⟨h.sub rfl,V⟩)
          · replace F:=bif_f K F;refine Kc 35 K rfl (Ro 17 ?_);obtain rfl:=szs F;exact Ro 1 (TL.nil fun a h => ⟨h.sub rfl,Ext.refl _⟩)
        intro c0 o;have ⟨i,R0⟩:=Et D o;refine Ro 5 ?_;cases szs hF;exact Ne rfl rfl ⟨_,rfl,rfl,i⟩
end Go.Proofs.YtiaobghojdehbaaGreatDoor
