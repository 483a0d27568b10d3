/- The walks: every function that FnExactSlackOf reaches computes the plain function that is typed beside it; no condition. -/
import Derived.Test.YtjijjanefcaakaaGreatDoorProg
import Derived.Test.YtjijjanefcaakaaGreatDoorDat
import Derived.Test.YtjijjanefcaakaaGreatDoorShelf
set_option linter.all false
set_option maxRecDepth 20000
set_option maxHeartbeats 40000000
namespace Go.Proofs.YtjijjanefcaakaaGreatDoor
open Go Go.RowKit Go.Eng
theorem Tryz.hm : Tryz.prog.follows .mixedOrders = true := by kernel_rfl
theorem ag_114 : aggB Tryz.prog 114 = some true := by kernel_rfl
theorem ag_118 : aggB Tryz.prog 118 = some true := by kernel_rfl
theorem ag_157 : aggB Tryz.prog 157 = some false := by kernel_rfl
theorem ag_158 : aggB Tryz.prog 158 = some false := by kernel_rfl
theorem ag_160 : aggB Tryz.prog 160 = some true := by kernel_rfl
theorem ag_162 : aggB Tryz.prog 162 = some true := by kernel_rfl
theorem ag_166 : aggB Tryz.prog 166 = some false := by kernel_rfl
theorem ag_167 : aggB Tryz.prog 167 = some false := by kernel_rfl
theorem ag_168 : aggB Tryz.prog 168 = some false := by kernel_rfl
theorem ag_185 : aggB Tryz.prog 185 = some true := by kernel_rfl
theorem ag_186 : aggB Tryz.prog 186 = some true := by kernel_rfl
theorem ag_2 : aggB Tryz.prog 2 = some false := by kernel_rfl
theorem ag_202 : aggB Tryz.prog 202 = some true := by kernel_rfl
theorem ag_205 : aggB Tryz.prog 205 = some true := by kernel_rfl
theorem ag_22 : aggB Tryz.prog 22 = some false := by kernel_rfl
theorem ag_24 : aggB Tryz.prog 24 = some true := by kernel_rfl
theorem ag_245 : aggB Tryz.prog 245 = some true := by kernel_rfl
theorem ag_25 : aggB Tryz.prog 25 = some false := by kernel_rfl
theorem ag_250 : aggB Tryz.prog 250 = some false := by kernel_rfl
theorem ag_252 : aggB Tryz.prog 252 = some true := by kernel_rfl
theorem ag_26 : aggB Tryz.prog 26 = some false := by kernel_rfl
theorem ag_261 : aggB Tryz.prog 261 = some false := by kernel_rfl
theorem ag_262 : aggB Tryz.prog 262 = some false := by kernel_rfl
theorem ag_264 : aggB Tryz.prog 264 = some true := by kernel_rfl
theorem ag_266 : aggB Tryz.prog 266 = some true := by kernel_rfl
theorem ag_268 : aggB Tryz.prog 268 = some true := by kernel_rfl
theorem ag_27 : aggB Tryz.prog 27 = some false := by kernel_rfl
theorem ag_29 : aggB Tryz.prog 29 = some true := by kernel_rfl
theorem ag_294 : aggB Tryz.prog 294 = some true := by kernel_rfl
theorem ag_3 : aggB Tryz.prog 3 = some false := by kernel_rfl
theorem ag_30 : aggB Tryz.prog 30 = some false := by kernel_rfl
theorem ag_307 : aggB Tryz.prog 307 = some true := by kernel_rfl
theorem ag_32 : aggB Tryz.prog 32 = some true := by kernel_rfl
theorem ag_323 : aggB Tryz.prog 323 = some true := by kernel_rfl
theorem ag_325 : aggB Tryz.prog 325 = some false := by kernel_rfl
theorem ag_327 : aggB Tryz.prog 327 = some true := by kernel_rfl
theorem ag_358 : aggB Tryz.prog 358 = some true := by kernel_rfl
theorem ag_37 : aggB Tryz.prog 37 = some false := by kernel_rfl
theorem ag_39 : aggB Tryz.prog 39 = some true := by kernel_rfl
theorem ag_4 : aggB Tryz.prog 4 = some false := by kernel_rfl
theorem ag_40 : aggB Tryz.prog 40 = some false := by kernel_rfl
theorem ag_41 : aggB Tryz.prog 41 = some false := by kernel_rfl
theorem ag_43 : aggB Tryz.prog 43 = some true := by kernel_rfl
theorem ag_44 : aggB Tryz.prog 44 = some false := by kernel_rfl
theorem ag_46 : aggB Tryz.prog 46 = some true := by kernel_rfl
theorem ag_53 : aggB Tryz.prog 53 = some false := by kernel_rfl
theorem ag_54 : aggB Tryz.prog 54 = some false := by kernel_rfl
theorem ag_56 : aggB Tryz.prog 56 = some true := by kernel_rfl
theorem ag_59 : aggB Tryz.prog 59 = some false := by kernel_rfl
theorem ag_61 : aggB Tryz.prog 61 = some true := by kernel_rfl
theorem ag_66 : aggB Tryz.prog 66 = some true := by kernel_rfl
theorem ag_71 : aggB Tryz.prog 71 = some true := by kernel_rfl
theorem ag_75 : aggB Tryz.prog 75 = some false := by kernel_rfl
theorem ag_9 : aggB Tryz.prog 9 = some false := by kernel_rfl
theorem cn_114 : cellsN Tryz.prog 114 = some 2 := by kernel_rfl
theorem cn_118 : cellsN Tryz.prog 118 = some 2 := by kernel_rfl
theorem cn_157 : cellsN Tryz.prog 157 = some 1 := by kernel_rfl
theorem cn_158 : cellsN Tryz.prog 158 = some 1 := by kernel_rfl
theorem cn_160 : cellsN Tryz.prog 160 = some 7 := by kernel_rfl
theorem cn_162 : cellsN Tryz.prog 162 = some 3 := by kernel_rfl
theorem cn_167 : cellsN Tryz.prog 167 = some 1 := by kernel_rfl
theorem cn_168 : cellsN Tryz.prog 168 = some 1 := by kernel_rfl
theorem cn_185 : cellsN Tryz.prog 185 = some 4 := by kernel_rfl
theorem cn_186 : cellsN Tryz.prog 186 = some 2 := by kernel_rfl
theorem cn_2 : cellsN Tryz.prog 2 = some 1 := by kernel_rfl
theorem cn_202 : cellsN Tryz.prog 202 = some 4 := by kernel_rfl
theorem cn_205 : cellsN Tryz.prog 205 = some 4 := by kernel_rfl
theorem cn_236 : cellsN Tryz.prog 236 = some 4 := by kernel_rfl
theorem cn_24 : cellsN Tryz.prog 24 = some 1 := by kernel_rfl
theorem cn_245 : cellsN Tryz.prog 245 = some 3 := by kernel_rfl
theorem cn_250 : cellsN Tryz.prog 250 = some 1 := by kernel_rfl
theorem cn_252 : cellsN Tryz.prog 252 = some 6 := by kernel_rfl
theorem cn_26 : cellsN Tryz.prog 26 = some 1 := by kernel_rfl
theorem cn_264 : cellsN Tryz.prog 264 = some 7 := by kernel_rfl
theorem cn_266 : cellsN Tryz.prog 266 = some 3 := by kernel_rfl
theorem cn_268 : cellsN Tryz.prog 268 = some 3 := by kernel_rfl
theorem cn_29 : cellsN Tryz.prog 29 = some 3 := by kernel_rfl
theorem cn_294 : cellsN Tryz.prog 294 = some 3 := by kernel_rfl
theorem cn_3 : cellsN Tryz.prog 3 = some 1 := by kernel_rfl
theorem cn_307 : cellsN Tryz.prog 307 = some 4 := by kernel_rfl
theorem cn_32 : cellsN Tryz.prog 32 = some 5 := by kernel_rfl
theorem cn_323 : cellsN Tryz.prog 323 = some 4 := by kernel_rfl
theorem cn_327 : cellsN Tryz.prog 327 = some 6 := by kernel_rfl
theorem cn_358 : cellsN Tryz.prog 358 = some 3 := by kernel_rfl
theorem cn_37 : cellsN Tryz.prog 37 = some 1 := by kernel_rfl
theorem cn_39 : cellsN Tryz.prog 39 = some 1 := by kernel_rfl
theorem cn_4 : cellsN Tryz.prog 4 = some 1 := by kernel_rfl
theorem cn_40 : cellsN Tryz.prog 40 = some 1 := by kernel_rfl
theorem cn_41 : cellsN Tryz.prog 41 = some 1 := by kernel_rfl
theorem cn_43 : cellsN Tryz.prog 43 = some 3 := by kernel_rfl
theorem cn_44 : cellsN Tryz.prog 44 = some 1 := by kernel_rfl
theorem cn_46 : cellsN Tryz.prog 46 = some 5 := by kernel_rfl
theorem cn_53 : cellsN Tryz.prog 53 = some 1 := by kernel_rfl
theorem cn_56 : cellsN Tryz.prog 56 = some 2 := by kernel_rfl
theorem cn_59 : cellsN Tryz.prog 59 = some 1 := by kernel_rfl
theorem cn_61 : cellsN Tryz.prog 61 = some 2 := by kernel_rfl
theorem cn_66 : cellsN Tryz.prog 66 = some 3 := by kernel_rfl
theorem cn_71 : cellsN Tryz.prog 71 = some 3 := by kernel_rfl
theorem cn_75 : cellsN Tryz.prog 75 = some 1 := by kernel_rfl
theorem cn_9 : cellsN Tryz.prog 9 = some 1 := by kernel_rfl
theorem es_114 : eqSB Tryz.prog 114 2 = true := by kernel_rfl
theorem fo_114_0 : fieldOff Tryz.prog 114 0 = some 0 := by kernel_rfl
theorem fo_114_1 : fieldOff Tryz.prog 114 1 = some 1 := by kernel_rfl
theorem fo_118_0 : fieldOff Tryz.prog 118 0 = some 0 := by kernel_rfl
theorem fo_118_1 : fieldOff Tryz.prog 118 1 = some 1 := by kernel_rfl
theorem fo_160_0 : fieldOff Tryz.prog 160 0 = some 0 := by kernel_rfl
theorem fo_160_1 : fieldOff Tryz.prog 160 1 = some 1 := by kernel_rfl
theorem fo_160_2 : fieldOff Tryz.prog 160 2 = some 2 := by kernel_rfl
theorem fo_160_3 : fieldOff Tryz.prog 160 3 = some 3 := by kernel_rfl
theorem fo_160_4 : fieldOff Tryz.prog 160 4 = some 4 := by kernel_rfl
theorem fo_160_5 : fieldOff Tryz.prog 160 5 = some 5 := by kernel_rfl
theorem fo_160_6 : fieldOff Tryz.prog 160 6 = some 6 := by kernel_rfl
theorem fo_162_0 : fieldOff Tryz.prog 162 0 = some 0 := by kernel_rfl
theorem fo_162_1 : fieldOff Tryz.prog 162 1 = some 1 := by kernel_rfl
theorem fo_162_2 : fieldOff Tryz.prog 162 2 = some 2 := by kernel_rfl
theorem fo_170_1 : fieldOff Tryz.prog 170 1 = some 5 := by kernel_rfl
theorem fo_170_2 : fieldOff Tryz.prog 170 2 = some 6 := by kernel_rfl
theorem fo_170_3 : fieldOff Tryz.prog 170 3 = some 7 := by kernel_rfl
theorem fo_170_4 : fieldOff Tryz.prog 170 4 = some 8 := by kernel_rfl
theorem fo_185_0 : fieldOff Tryz.prog 185 0 = some 0 := by kernel_rfl
theorem fo_185_1 : fieldOff Tryz.prog 185 1 = some 1 := by kernel_rfl
theorem fo_185_2 : fieldOff Tryz.prog 185 2 = some 2 := by kernel_rfl
theorem fo_185_3 : fieldOff Tryz.prog 185 3 = some 3 := by kernel_rfl
theorem fo_202_0 : fieldOff Tryz.prog 202 0 = some 0 := by kernel_rfl
theorem fo_202_1 : fieldOff Tryz.prog 202 1 = some 1 := by kernel_rfl
theorem fo_202_2 : fieldOff Tryz.prog 202 2 = some 2 := by kernel_rfl
theorem fo_202_3 : fieldOff Tryz.prog 202 3 = some 3 := by kernel_rfl
theorem fo_205_0 : fieldOff Tryz.prog 205 0 = some 0 := by kernel_rfl
theorem fo_205_1 : fieldOff Tryz.prog 205 1 = some 1 := by kernel_rfl
theorem fo_205_2 : fieldOff Tryz.prog 205 2 = some 2 := by kernel_rfl
theorem fo_205_3 : fieldOff Tryz.prog 205 3 = some 3 := by kernel_rfl
theorem fo_236_2 : fieldOff Tryz.prog 236 2 = some 2 := by kernel_rfl
theorem fo_236_3 : fieldOff Tryz.prog 236 3 = some 3 := by kernel_rfl
theorem fo_245_0 : fieldOff Tryz.prog 245 0 = some 0 := by kernel_rfl
theorem fo_245_1 : fieldOff Tryz.prog 245 1 = some 1 := by kernel_rfl
theorem fo_245_2 : fieldOff Tryz.prog 245 2 = some 2 := by kernel_rfl
theorem fo_24_0 : fieldOff Tryz.prog 24 0 = some 0 := by kernel_rfl
theorem fo_252_0 : fieldOff Tryz.prog 252 0 = some 0 := by kernel_rfl
theorem fo_252_1 : fieldOff Tryz.prog 252 1 = some 1 := by kernel_rfl
theorem fo_252_2 : fieldOff Tryz.prog 252 2 = some 2 := by kernel_rfl
theorem fo_252_3 : fieldOff Tryz.prog 252 3 = some 3 := by kernel_rfl
theorem fo_252_4 : fieldOff Tryz.prog 252 4 = some 4 := by kernel_rfl
theorem fo_252_5 : fieldOff Tryz.prog 252 5 = some 5 := by kernel_rfl
theorem fo_264_0 : fieldOff Tryz.prog 264 0 = some 0 := by kernel_rfl
theorem fo_264_1 : fieldOff Tryz.prog 264 1 = some 1 := by kernel_rfl
theorem fo_264_2 : fieldOff Tryz.prog 264 2 = some 2 := by kernel_rfl
theorem fo_264_3 : fieldOff Tryz.prog 264 3 = some 3 := by kernel_rfl
theorem fo_264_4 : fieldOff Tryz.prog 264 4 = some 4 := by kernel_rfl
theorem fo_264_5 : fieldOff Tryz.prog 264 5 = some 5 := by kernel_rfl
theorem fo_264_6 : fieldOff Tryz.prog 264 6 = some 6 := by kernel_rfl
theorem fo_266_0 : fieldOff Tryz.prog 266 0 = some 0 := by kernel_rfl
theorem fo_266_1 : fieldOff Tryz.prog 266 1 = some 1 := by kernel_rfl
theorem fo_266_2 : fieldOff Tryz.prog 266 2 = some 2 := by kernel_rfl
theorem fo_268_0 : fieldOff Tryz.prog 268 0 = some 0 := by kernel_rfl
theorem fo_268_1 : fieldOff Tryz.prog 268 1 = some 1 := by kernel_rfl
theorem fo_268_2 : fieldOff Tryz.prog 268 2 = some 2 := by kernel_rfl
theorem fo_294_0 : fieldOff Tryz.prog 294 0 = some 0 := by kernel_rfl
theorem fo_294_1 : fieldOff Tryz.prog 294 1 = some 1 := by kernel_rfl
theorem fo_294_2 : fieldOff Tryz.prog 294 2 = some 2 := by kernel_rfl
theorem fo_29_0 : fieldOff Tryz.prog 29 0 = some 0 := by kernel_rfl
theorem fo_29_1 : fieldOff Tryz.prog 29 1 = some 1 := by kernel_rfl
theorem fo_29_2 : fieldOff Tryz.prog 29 2 = some 2 := by kernel_rfl
theorem fo_307_0 : fieldOff Tryz.prog 307 0 = some 0 := by kernel_rfl
theorem fo_307_1 : fieldOff Tryz.prog 307 1 = some 1 := by kernel_rfl
theorem fo_307_2 : fieldOff Tryz.prog 307 2 = some 2 := by kernel_rfl
theorem fo_307_3 : fieldOff Tryz.prog 307 3 = some 3 := by kernel_rfl
theorem fo_323_0 : fieldOff Tryz.prog 323 0 = some 0 := by kernel_rfl
theorem fo_323_1 : fieldOff Tryz.prog 323 1 = some 1 := by kernel_rfl
theorem fo_323_2 : fieldOff Tryz.prog 323 2 = some 2 := by kernel_rfl
theorem fo_323_3 : fieldOff Tryz.prog 323 3 = some 3 := by kernel_rfl
theorem fo_327_0 : fieldOff Tryz.prog 327 0 = some 0 := by kernel_rfl
theorem fo_327_1 : fieldOff Tryz.prog 327 1 = some 1 := by kernel_rfl
theorem fo_327_2 : fieldOff Tryz.prog 327 2 = some 2 := by kernel_rfl
theorem fo_327_3 : fieldOff Tryz.prog 327 3 = some 3 := by kernel_rfl
theorem fo_327_4 : fieldOff Tryz.prog 327 4 = some 4 := by kernel_rfl
theorem fo_327_5 : fieldOff Tryz.prog 327 5 = some 5 := by kernel_rfl
theorem fo_32_0 : fieldOff Tryz.prog 32 0 = some 0 := by kernel_rfl
theorem fo_32_1 : fieldOff Tryz.prog 32 1 = some 1 := by kernel_rfl
theorem fo_32_2 : fieldOff Tryz.prog 32 2 = some 4 := by kernel_rfl
theorem fo_358_0 : fieldOff Tryz.prog 358 0 = some 0 := by kernel_rfl
theorem fo_358_1 : fieldOff Tryz.prog 358 1 = some 1 := by kernel_rfl
theorem fo_358_2 : fieldOff Tryz.prog 358 2 = some 2 := by kernel_rfl
theorem fo_39_0 : fieldOff Tryz.prog 39 0 = some 0 := by kernel_rfl
theorem fo_43_0 : fieldOff Tryz.prog 43 0 = some 0 := by kernel_rfl
theorem fo_43_1 : fieldOff Tryz.prog 43 1 = some 1 := by kernel_rfl
theorem fo_43_2 : fieldOff Tryz.prog 43 2 = some 2 := by kernel_rfl
theorem fo_46_0 : fieldOff Tryz.prog 46 0 = some 0 := by kernel_rfl
theorem fo_46_1 : fieldOff Tryz.prog 46 1 = some 1 := by kernel_rfl
theorem fo_46_2 : fieldOff Tryz.prog 46 2 = some 4 := by kernel_rfl
theorem fo_56_0 : fieldOff Tryz.prog 56 0 = some 0 := by kernel_rfl
theorem fo_56_1 : fieldOff Tryz.prog 56 1 = some 1 := by kernel_rfl
theorem fo_61_0 : fieldOff Tryz.prog 61 0 = some 0 := by kernel_rfl
theorem fo_61_1 : fieldOff Tryz.prog 61 1 = some 1 := by kernel_rfl
theorem fo_66_0 : fieldOff Tryz.prog 66 0 = some 0 := by kernel_rfl
theorem fo_66_1 : fieldOff Tryz.prog 66 1 = some 1 := by kernel_rfl
theorem fo_66_2 : fieldOff Tryz.prog 66 2 = some 2 := by kernel_rfl
theorem fo_71_0 : fieldOff Tryz.prog 71 0 = some 0 := by kernel_rfl
theorem fo_71_1 : fieldOff Tryz.prog 71 1 = some 1 := by kernel_rfl
theorem fo_71_2 : fieldOff Tryz.prog 71 2 = some 2 := by kernel_rfl
theorem gf_106 : goFn Tryz.prog 106 = true := by kernel_rfl
theorem gf_110 : goFn Tryz.prog 110 = true := by kernel_rfl
theorem gf_112 : goFn Tryz.prog 112 = true := by kernel_rfl
theorem gf_118 : goFn Tryz.prog 118 = true := by kernel_rfl
theorem gf_119 : goFn Tryz.prog 119 = true := by kernel_rfl
theorem gf_120 : goFn Tryz.prog 120 = true := by kernel_rfl
theorem gf_121 : goFn Tryz.prog 121 = true := by kernel_rfl
theorem gf_122 : goFn Tryz.prog 122 = true := by kernel_rfl
theorem gf_123 : goFn Tryz.prog 123 = true := by kernel_rfl
theorem gf_124 : goFn Tryz.prog 124 = true := by kernel_rfl
theorem gf_125 : goFn Tryz.prog 125 = true := by kernel_rfl
theorem gf_126 : goFn Tryz.prog 126 = true := by kernel_rfl
theorem gf_127 : goFn Tryz.prog 127 = true := by kernel_rfl
theorem gf_128 : goFn Tryz.prog 128 = true := by kernel_rfl
theorem gf_129 : goFn Tryz.prog 129 = true := by kernel_rfl
theorem gf_130 : goFn Tryz.prog 130 = true := by kernel_rfl
theorem gf_131 : goFn Tryz.prog 131 = true := by kernel_rfl
theorem gf_132 : goFn Tryz.prog 132 = true := by kernel_rfl
theorem gf_133 : goFn Tryz.prog 133 = true := by kernel_rfl
theorem gf_134 : goFn Tryz.prog 134 = true := by kernel_rfl
theorem gf_135 : goFn Tryz.prog 135 = true := by kernel_rfl
theorem gf_136 : goFn Tryz.prog 136 = true := by kernel_rfl
theorem gf_137 : goFn Tryz.prog 137 = true := by kernel_rfl
theorem gf_138 : goFn Tryz.prog 138 = true := by kernel_rfl
theorem gf_139 : goFn Tryz.prog 139 = true := by kernel_rfl
theorem gf_14 : goFn Tryz.prog 14 = true := by kernel_rfl
theorem gf_140 : goFn Tryz.prog 140 = true := by kernel_rfl
theorem gf_141 : goFn Tryz.prog 141 = true := by kernel_rfl
theorem gf_142 : goFn Tryz.prog 142 = true := by kernel_rfl
theorem gf_143 : goFn Tryz.prog 143 = true := by kernel_rfl
theorem gf_144 : goFn Tryz.prog 144 = true := by kernel_rfl
theorem gf_145 : goFn Tryz.prog 145 = true := by kernel_rfl
theorem gf_146 : goFn Tryz.prog 146 = true := by kernel_rfl
theorem gf_147 : goFn Tryz.prog 147 = true := by kernel_rfl
theorem gf_148 : goFn Tryz.prog 148 = true := by kernel_rfl
theorem gf_149 : goFn Tryz.prog 149 = true := by kernel_rfl
theorem gf_150 : goFn Tryz.prog 150 = true := by kernel_rfl
theorem gf_151 : goFn Tryz.prog 151 = true := by kernel_rfl
theorem gf_152 : goFn Tryz.prog 152 = true := by kernel_rfl
theorem gf_156 : goFn Tryz.prog 156 = true := by kernel_rfl
theorem gf_165 : goFn Tryz.prog 165 = true := by kernel_rfl
theorem gf_17 : goFn Tryz.prog 17 = true := by kernel_rfl
theorem gf_174 : goFn Tryz.prog 174 = true := by kernel_rfl
theorem gf_175 : goFn Tryz.prog 175 = true := by kernel_rfl
theorem gf_176 : goFn Tryz.prog 176 = true := by kernel_rfl
theorem gf_177 : goFn Tryz.prog 177 = true := by kernel_rfl
theorem gf_178 : goFn Tryz.prog 178 = true := by kernel_rfl
theorem gf_179 : goFn Tryz.prog 179 = true := by kernel_rfl
theorem gf_180 : goFn Tryz.prog 180 = true := by kernel_rfl
theorem gf_181 : goFn Tryz.prog 181 = true := by kernel_rfl
theorem gf_182 : goFn Tryz.prog 182 = true := by kernel_rfl
theorem gf_183 : goFn Tryz.prog 183 = true := by kernel_rfl
theorem gf_184 : goFn Tryz.prog 184 = true := by kernel_rfl
theorem gf_185 : goFn Tryz.prog 185 = true := by kernel_rfl
theorem gf_186 : goFn Tryz.prog 186 = true := by kernel_rfl
theorem gf_187 : goFn Tryz.prog 187 = true := by kernel_rfl
theorem gf_188 : goFn Tryz.prog 188 = true := by kernel_rfl
theorem gf_189 : goFn Tryz.prog 189 = true := by kernel_rfl
theorem gf_190 : goFn Tryz.prog 190 = true := by kernel_rfl
theorem gf_191 : goFn Tryz.prog 191 = true := by kernel_rfl
theorem gf_192 : goFn Tryz.prog 192 = true := by kernel_rfl
theorem gf_193 : goFn Tryz.prog 193 = true := by kernel_rfl
theorem gf_194 : goFn Tryz.prog 194 = true := by kernel_rfl
theorem gf_195 : goFn Tryz.prog 195 = true := by kernel_rfl
theorem gf_196 : goFn Tryz.prog 196 = true := by kernel_rfl
theorem gf_197 : goFn Tryz.prog 197 = true := by kernel_rfl
theorem gf_198 : goFn Tryz.prog 198 = true := by kernel_rfl
theorem gf_199 : goFn Tryz.prog 199 = true := by kernel_rfl
theorem gf_20 : goFn Tryz.prog 20 = true := by kernel_rfl
theorem gf_200 : goFn Tryz.prog 200 = true := by kernel_rfl
theorem gf_201 : goFn Tryz.prog 201 = true := by kernel_rfl
theorem gf_202 : goFn Tryz.prog 202 = true := by kernel_rfl
theorem gf_203 : goFn Tryz.prog 203 = true := by kernel_rfl
theorem gf_205 : goFn Tryz.prog 205 = true := by kernel_rfl
theorem gf_206 : goFn Tryz.prog 206 = true := by kernel_rfl
theorem gf_209 : goFn Tryz.prog 209 = true := by kernel_rfl
theorem gf_210 : goFn Tryz.prog 210 = true := by kernel_rfl
theorem gf_214 : goFn Tryz.prog 214 = true := by kernel_rfl
theorem gf_217 : goFn Tryz.prog 217 = true := by kernel_rfl
theorem gf_218 : goFn Tryz.prog 218 = true := by kernel_rfl
theorem gf_219 : goFn Tryz.prog 219 = true := by kernel_rfl
theorem gf_22 : goFn Tryz.prog 22 = true := by kernel_rfl
theorem gf_220 : goFn Tryz.prog 220 = true := by kernel_rfl
theorem gf_221 : goFn Tryz.prog 221 = true := by kernel_rfl
theorem gf_222 : goFn Tryz.prog 222 = true := by kernel_rfl
theorem gf_223 : goFn Tryz.prog 223 = true := by kernel_rfl
theorem gf_224 : goFn Tryz.prog 224 = true := by kernel_rfl
theorem gf_225 : goFn Tryz.prog 225 = true := by kernel_rfl
theorem gf_226 : goFn Tryz.prog 226 = true := by kernel_rfl
theorem gf_227 : goFn Tryz.prog 227 = true := by kernel_rfl
theorem gf_228 : goFn Tryz.prog 228 = true := by kernel_rfl
theorem gf_229 : goFn Tryz.prog 229 = true := by kernel_rfl
theorem gf_230 : goFn Tryz.prog 230 = true := by kernel_rfl
theorem gf_231 : goFn Tryz.prog 231 = true := by kernel_rfl
theorem gf_232 : goFn Tryz.prog 232 = true := by kernel_rfl
theorem gf_233 : goFn Tryz.prog 233 = true := by kernel_rfl
theorem gf_24 : goFn Tryz.prog 24 = true := by kernel_rfl
theorem gf_240 : goFn Tryz.prog 240 = true := by kernel_rfl
theorem gf_241 : goFn Tryz.prog 241 = true := by kernel_rfl
theorem gf_242 : goFn Tryz.prog 242 = true := by kernel_rfl
theorem gf_243 : goFn Tryz.prog 243 = true := by kernel_rfl
theorem gf_244 : goFn Tryz.prog 244 = true := by kernel_rfl
theorem gf_245 : goFn Tryz.prog 245 = true := by kernel_rfl
theorem gf_246 : goFn Tryz.prog 246 = true := by kernel_rfl
theorem gf_247 : goFn Tryz.prog 247 = true := by kernel_rfl
theorem gf_248 : goFn Tryz.prog 248 = true := by kernel_rfl
theorem gf_249 : goFn Tryz.prog 249 = true := by kernel_rfl
theorem gf_250 : goFn Tryz.prog 250 = true := by kernel_rfl
theorem gf_251 : goFn Tryz.prog 251 = true := by kernel_rfl
theorem gf_26 : goFn Tryz.prog 26 = true := by kernel_rfl
theorem gf_260 : goFn Tryz.prog 260 = true := by kernel_rfl
theorem gf_262 : goFn Tryz.prog 262 = true := by kernel_rfl
theorem gf_263 : goFn Tryz.prog 263 = true := by kernel_rfl
theorem gf_264 : goFn Tryz.prog 264 = true := by kernel_rfl
theorem gf_265 : goFn Tryz.prog 265 = true := by kernel_rfl
theorem gf_266 : goFn Tryz.prog 266 = true := by kernel_rfl
theorem gf_267 : goFn Tryz.prog 267 = true := by kernel_rfl
theorem gf_268 : goFn Tryz.prog 268 = true := by kernel_rfl
theorem gf_27 : goFn Tryz.prog 27 = true := by kernel_rfl
theorem gf_274 : goFn Tryz.prog 274 = true := by kernel_rfl
theorem gf_277 : goFn Tryz.prog 277 = true := by kernel_rfl
theorem gf_278 : goFn Tryz.prog 278 = true := by kernel_rfl
theorem gf_279 : goFn Tryz.prog 279 = true := by kernel_rfl
theorem gf_280 : goFn Tryz.prog 280 = true := by kernel_rfl
theorem gf_281 : goFn Tryz.prog 281 = true := by kernel_rfl
theorem gf_282 : goFn Tryz.prog 282 = true := by kernel_rfl
theorem gf_283 : goFn Tryz.prog 283 = true := by kernel_rfl
theorem gf_288 : goFn Tryz.prog 288 = true := by kernel_rfl
theorem gf_289 : goFn Tryz.prog 289 = true := by kernel_rfl
theorem gf_29 : goFn Tryz.prog 29 = true := by kernel_rfl
theorem gf_290 : goFn Tryz.prog 290 = true := by kernel_rfl
theorem gf_291 : goFn Tryz.prog 291 = true := by kernel_rfl
theorem gf_292 : goFn Tryz.prog 292 = true := by kernel_rfl
theorem gf_293 : goFn Tryz.prog 293 = true := by kernel_rfl
theorem gf_294 : goFn Tryz.prog 294 = true := by kernel_rfl
theorem gf_298 : goFn Tryz.prog 298 = true := by kernel_rfl
theorem gf_299 : goFn Tryz.prog 299 = true := by kernel_rfl
theorem gf_300 : goFn Tryz.prog 300 = true := by kernel_rfl
theorem gf_301 : goFn Tryz.prog 301 = true := by kernel_rfl
theorem gf_31 : goFn Tryz.prog 31 = true := by kernel_rfl
theorem gf_33 : goFn Tryz.prog 33 = true := by kernel_rfl
theorem gf_35 : goFn Tryz.prog 35 = true := by kernel_rfl
theorem gf_36 : goFn Tryz.prog 36 = true := by kernel_rfl
theorem gf_37 : goFn Tryz.prog 37 = true := by kernel_rfl
theorem gf_55 : goFn Tryz.prog 55 = true := by kernel_rfl
theorem gf_56 : goFn Tryz.prog 56 = true := by kernel_rfl
theorem gf_57 : goFn Tryz.prog 57 = true := by kernel_rfl
theorem gf_58 : goFn Tryz.prog 58 = true := by kernel_rfl
theorem gf_60 : goFn Tryz.prog 60 = true := by kernel_rfl
theorem gf_61 : goFn Tryz.prog 61 = true := by kernel_rfl
theorem gf_62 : goFn Tryz.prog 62 = true := by kernel_rfl
theorem gf_64 : goFn Tryz.prog 64 = true := by kernel_rfl
theorem gf_65 : goFn Tryz.prog 65 = true := by kernel_rfl
theorem gf_67 : goFn Tryz.prog 67 = true := by kernel_rfl
theorem gf_68 : goFn Tryz.prog 68 = true := by kernel_rfl
theorem gf_69 : goFn Tryz.prog 69 = true := by kernel_rfl
theorem gf_71 : goFn Tryz.prog 71 = true := by kernel_rfl
theorem gf_72 : goFn Tryz.prog 72 = true := by kernel_rfl
theorem gf_73 : goFn Tryz.prog 73 = true := by kernel_rfl
theorem gf_74 : goFn Tryz.prog 74 = true := by kernel_rfl
theorem gf_75 : goFn Tryz.prog 75 = true := by kernel_rfl
theorem gf_76 : goFn Tryz.prog 76 = true := by kernel_rfl
theorem gf_77 : goFn Tryz.prog 77 = true := by kernel_rfl
theorem gf_78 : goFn Tryz.prog 78 = true := by kernel_rfl
theorem gf_79 : goFn Tryz.prog 79 = true := by kernel_rfl
theorem gf_81 : goFn Tryz.prog 81 = true := by kernel_rfl
theorem gf_83 : goFn Tryz.prog 83 = true := by kernel_rfl
theorem gf_84 : goFn Tryz.prog 84 = true := by kernel_rfl
theorem gf_86 : goFn Tryz.prog 86 = true := by kernel_rfl
theorem gf_87 : goFn Tryz.prog 87 = true := by kernel_rfl
theorem gf_89 : goFn Tryz.prog 89 = true := by kernel_rfl
theorem gf_90 : goFn Tryz.prog 90 = true := by kernel_rfl
theorem gf_91 : goFn Tryz.prog 91 = true := by kernel_rfl
theorem gf_92 : goFn Tryz.prog 92 = true := by kernel_rfl
theorem gf_93 : goFn Tryz.prog 93 = true := by kernel_rfl
theorem gf_94 : goFn Tryz.prog 94 = true := by kernel_rfl
theorem gf_95 : goFn Tryz.prog 95 = true := by kernel_rfl
theorem in_114 : infoN Tryz.prog 114 = some ([.int .i64 0, .int .i64 0], 2, 16) := by kernel_rfl
theorem in_160 : infoN Tryz.prog 160 = some ([.string ByteArray.empty, .int .i64 0, .slice none 0 0, .slice none 0 0, .slice none 0 0, .int .i64 0, .int .i64 0], 7, 112) := by kernel_rfl
theorem in_162 : infoN Tryz.prog 162 = some ([.string ByteArray.empty, .int .i64 0, .slice none 0 0], 3, 48) := by kernel_rfl
theorem in_185 : infoN Tryz.prog 185 = some ([.int .i64 0, .int .i64 0, .int .i64 0, .bool false], 4, 32) := by kernel_rfl
theorem in_186 : infoN Tryz.prog 186 = some ([.int .i64 0, .int .i64 0], 2, 16) := by kernel_rfl
theorem in_2 : infoN Tryz.prog 2 = some ([.int .i64 0], 1, 8) := by kernel_rfl
theorem in_205 : infoN Tryz.prog 205 = some ([.slice none 0 0, .slice none 0 0, .slice none 0 0, .slice none 0 0], 4, 96) := by kernel_rfl
theorem in_219 : infoN Tryz.prog 219 = some ([.int .i64 0, .int .i64 0, .int .i64 0, .int .i64 0], 4, 32) := by kernel_rfl
theorem in_236 : infoN Tryz.prog 236 = some ([.int .i64 0, .int .i64 0, .int .i64 0, .bool false], 4, 32) := by kernel_rfl
theorem in_245 : infoN Tryz.prog 245 = some ([.string ByteArray.empty, .int .i64 0, .int .i64 0], 3, 32) := by kernel_rfl
theorem in_252 : infoN Tryz.prog 252 = some ([.int .i64 0, .int .i64 0, .int .i64 0, .int .i64 0, .slice none 0 0, .slice none 0 0], 6, 80) := by kernel_rfl
theorem in_294 : infoN Tryz.prog 294 = some ([.slice none 0 0, .slice none 0 0, .slice none 0 0], 3, 72) := by kernel_rfl
theorem in_3 : infoN Tryz.prog 3 = some ([.int .i64 0], 1, 8) := by kernel_rfl
theorem in_307 : infoN Tryz.prog 307 = some ([.string ByteArray.empty, .int .i64 0, .int .i64 0, .bool false], 4, 40) := by kernel_rfl
theorem in_4 : infoN Tryz.prog 4 = some ([.bool false], 1, 1) := by kernel_rfl
theorem in_75 : infoN Tryz.prog 75 = some ([.slice none 0 0], 1, 24) := by kernel_rfl
theorem in_9 : infoN Tryz.prog 9 = some ([.string ByteArray.empty], 1, 16) := by kernel_rfl
theorem oc_114 : ∀ (a0 : Int) (a1 : Int), okCT Tryz.prog 114 [.int .i64 a0, .int .i64 a1] = true := by intros; kernel_rfl
theorem pl_114 : placesN Tryz.prog 114 = some [(0, 1), (1, 1)] := by kernel_rfl
theorem pl_170 : placesN Tryz.prog 170 = some [(0, 5), (5, 1), (6, 1), (7, 1), (8, 1), (9, 1)] := by kernel_rfl
theorem pl_185 : placesN Tryz.prog 185 = some [(0, 1), (1, 1), (2, 1), (3, 1)] := by kernel_rfl
theorem pl_186 : placesN Tryz.prog 186 = some [(0, 1), (1, 1)] := by kernel_rfl
theorem pl_219 : placesN Tryz.prog 219 = some [(0, 1), (1, 1), (2, 1), (3, 1)] := by kernel_rfl
theorem pl_236 : placesN Tryz.prog 236 = some [(0, 1), (1, 1), (2, 1), (3, 1)] := by kernel_rfl
theorem zn_114 : zeroN Tryz.prog 114 = some [.int .i64 0, .int .i64 0] := by kernel_rfl
theorem zn_160 : zeroN Tryz.prog 160 = some [.string ByteArray.empty, .int .i64 0, .slice none 0 0, .slice none 0 0, .slice none 0 0, .int .i64 0, .int .i64 0] := by kernel_rfl
theorem zn_162 : zeroN Tryz.prog 162 = some [.string ByteArray.empty, .int .i64 0, .slice none 0 0] := by kernel_rfl
theorem zn_170 : zeroN Tryz.prog 170 = some [.slice none 0 0, .slice none 0 0, .slice none 0 0, .slice none 0 0, .slice none 0 0, .slice none 0 0, .slice none 0 0, .slice none 0 0, .slice none 0 0, .slice none 0 0] := by kernel_rfl
theorem zn_185 : zeroN Tryz.prog 185 = some [.int .i64 0, .int .i64 0, .int .i64 0, .bool false] := by kernel_rfl
theorem zn_186 : zeroN Tryz.prog 186 = some [.int .i64 0, .int .i64 0] := by kernel_rfl
theorem zn_205 : zeroN Tryz.prog 205 = some [.slice none 0 0, .slice none 0 0, .slice none 0 0, .slice none 0 0] := by kernel_rfl
theorem zn_219 : zeroN Tryz.prog 219 = some [.int .i64 0, .int .i64 0, .int .i64 0, .int .i64 0] := by kernel_rfl
theorem zn_236 : zeroN Tryz.prog 236 = some [.int .i64 0, .int .i64 0, .int .i64 0, .bool false] := by kernel_rfl
theorem zn_245 : zeroN Tryz.prog 245 = some [.string ByteArray.empty, .int .i64 0, .int .i64 0] := by kernel_rfl
theorem zn_252 : zeroN Tryz.prog 252 = some [.int .i64 0, .int .i64 0, .int .i64 0, .int .i64 0, .slice none 0 0, .slice none 0 0] := by kernel_rfl
theorem zn_294 : zeroN Tryz.prog 294 = some [.slice none 0 0, .slice none 0 0, .slice none 0 0] := by kernel_rfl
theorem zn_307 : zeroN Tryz.prog 307 = some [.string ByteArray.empty, .int .i64 0, .int .i64 0, .bool false] := by kernel_rfl
theorem zn_39 : zeroN Tryz.prog 39 = some [.slice none 0 0] := by kernel_rfl
theorem zn_43 : zeroN Tryz.prog 43 = some [.slice none 0 0, .slice none 0 0, .slice none 0 0] := by kernel_rfl
theorem zn_46 : zeroN Tryz.prog 46 = some [.slice none 0 0, .slice none 0 0, .slice none 0 0, .slice none 0 0, .slice none 0 0] := by kernel_rfl
theorem zn_61 : zeroN Tryz.prog 61 = some [.slice none 0 0, .slice none 0 0] := by kernel_rfl
theorem zn_71 : zeroN Tryz.prog 71 = some [.slice none 0 0, .slice none 0 0, .slice none 0 0] := by kernel_rfl
def F_strings_Trim (n : Nat) (a0_s : ByteArray) (a1_cutset : ByteArray) : Option ByteArray := if a0_s.size ≤ 9223372036854775807 ∧ a1_cutset.size < 4294967281 ∧ (a1_cutset.data.toList.all fun b => decide (b.toNat < 128)) = true then some ⟨(Lib.trimS a0_s.data.toList a1_cutset.data.toList).toArray⟩ else none
theorem W_strings_Trim {n : Nat} {a0_s : ByteArray} {a1_cutset : ByteArray} {r : ByteArray} {w : World} (hF : F_strings_Trim n a0_s a1_cutset = some r) :
    Calls Tryz.prog 231 [.string a0_s, .string a1_cutset].toArray w (Ret fun u w2 => u = .string r ∧ Ext w w2) := by
  unfold F_strings_Trim at hF
  split at hF
  · rename_i h
    obtain rfl := Option.some.inj hF
    refine (Tryz.strings_Trim_ascii a0_s a1_cutset w h.1 h.2.1 (fun j b hb => of_decide_eq_true (List.all_eq_true.1 h.2.2 b (List.mem_of_getElem? hb)))).mono ?_
    rintro e w' ⟨rfl, hB⟩
    exact ⟨_, rfl, rfl, hB⟩
  · cases hF
def F_strings_IndexByte (n : Nat) (a0_s : ByteArray) (a1_c : Int) : Option Int := some (Lib.indexByte a0_s.data.toList a1_c.toNat.toUInt8)
theorem W_strings_IndexByte {n : Nat} {a0_s : ByteArray} {a1_c : Int} {r : Int} {w : World} (hF : F_strings_IndexByte n a0_s a1_c = some r) :
    Calls Tryz.prog 232 [.string a0_s, .int .u8 a1_c].toArray w (Ret fun u w2 => u = .int .i64 r ∧ Ext w w2) := by
  obtain rfl := Option.some.inj hF
  refine (Tryz.strings_IndexByte a0_s a1_c w).mono ?_
  rintro e w' ⟨rfl, rfl⟩
  exact ⟨_, rfl, rfl, Ext.refl _⟩
def F_slices_Index_string_string_L1 (a0:List ByteArray) (a1:ByteArray) (k0:Int→Option Int):Nat→Int→Option Int
  | 0, _=>none
  | m + 1, i5=>(bif decide (i5 < (a0.length:Int)) then (Option.bind (getI a0 i5) fun x6=>(bif (a1.toList == x6.toList) then (some i5) else (F_slices_Index_string_string_L1 a0 a1 k0 m (IntKind.wrap .i64 (i5 + 1))))) else (k0 i5))
def F_slices_Index_string_string (n:Nat) (a0:List ByteArray) (a1:ByteArray):Option Int:=(F_slices_Index_string_string_L1 a0 a1 (fun i5=>(some (-1))) n 0)
theorem W_slices_Index_string_string {n:Nat} {C:List ByteArray} {D:ByteArray} {r:Int} {w:World} {F:Value} {H:Nat} (hF:F_slices_Index_string_string n C D = some r) (hH:H ≤ w.heap.size) (G:slRep cStr w (Iv 0 H) C F) :
    Calls Tryz.prog 233 [F,.string D].toArray w (Ret fun u L => u = .int .i64 r∧Ext w L):=by
  refine calls_ofD Tryz.func233 rfl Tryz.ntmps233 ?_;have I:Ext w w:=Ext.refl w;unfold F_slices_Index_string_string at hF;refine Rc 9 (Yl rfl (yle rfl Tryz.underlying26 (G.oh hH I)) (Ro 4 ?_));refine WC.loopD (fun B a wl => ∃ (A:Int),Kn 19 [(0,F),(1,.string D),(7,.int .i64 ((C.length:Int))),(8,.int .i64 A)] a∧Ext w wl∧w.heap.size ≤ wl.heap.size∧F_slices_Index_string_string_L1 C D (fun A => (some (-1))) B A = some r) n ?_ ?_
  · intro a hK;exact ⟨0,hK.sub rfl,I,Nat.le_refl _,hF⟩
  · rintro B a Q ⟨A,hK,E,O,hF⟩;revert a;change WC _ _ _ _ _ _
    cases B with
    | zero => exact nos hF
    | succ B =>
      rw [F_slices_Index_string_string_L1.eq_2] at hF;refine Rc 6 (Wc rfl hF ?_ ?_)
      · intro hF;refine Rc 15 ?_;obtain ⟨R,K,hF⟩:=bsome hF;refine Ye rfl (yix rfl Tryz.underlying26 cn_9 (G.oh hH E) K) ?_;rintro _ ⟨M,P,_,rfl,N,rfl,J⟩;refine Yl rfl (ylc 0 rfl ag_9 J rfl rfl) (Ro 3 (Wc rfl hF ?_ ?_))
        · intro hF;refine Rc 12 ?_;obtain rfl:=szs hF;exact Ne rfl rfl ⟨_,rfl,rfl,E⟩
        · intro hF;refine Rc 8 ?_;intro a hK;exact ⟨B,Nat.le.refl,(IntKind.wrap .i64 (A + 1)),hK.sub rfl,E,(by omega),hF⟩
      · intro hF;refine Rc 11 ?_;obtain rfl:=szs hF;exact Ne rfl rfl ⟨_,rfl,rfl,E⟩
def F_slices_Contains_string_string (n:Nat) (a0:List ByteArray) (a1:ByteArray):Option Bool:=(Option.bind (F_slices_Index_string_string n a0 a1) fun r3=>(some (decide (r3 ≥ 0))))
theorem W_slices_Contains_string_string {n:Nat} {A:List ByteArray} {B:ByteArray} {r:Bool} {w:World} {D:Value} {H:Nat} (hF:F_slices_Contains_string_string n A B = some r) (hH:H ≤ w.heap.size) (E:slRep cStr w (Iv 0 H) A D) :
    Calls Tryz.prog 210 [D,.string B].toArray w (Ret fun u J => u = .bool r∧Ext w J):=by
  refine calls_ofD Tryz.func210 rfl Tryz.ntmps210 ?_;have C:Ext w w:=Ext.refl w;unfold F_slices_Contains_string_string at hF;refine Rc 9 ?_;obtain ⟨L,G,hF⟩:=bsome hF;refine Ef rfl (eca rfl gf_233 (W_slices_Index_string_string G (by omega) (E.oh hH C) :)) ?_;rintro _ M ⟨rfl,I⟩;obtain ⟨F,K⟩:=Et C I;refine Ro 5 ?_;obtain rfl:=szs hF;exact Ne rfl rfl ⟨_,rfl,rfl,F⟩
def F_slices_Min_int64_int64_L1 (a0:List Int) (k0:Int→Int→Option Int):Nat→Int→Int→Option Int
  | 0, _, _=>none
  | m + 1, i13, i14=>(bif decide (i14 < (a0.length:Int)) then (Option.bind (getI a0 i14) fun x15=>(F_slices_Min_int64_int64_L1 a0 k0 m (min i13 x15) (IntKind.wrap .i64 (i14 + 1)))) else (k0 i13 i14))
def F_slices_Min_int64_int64 (n:Nat) (a0:List Int):Option Int:=(bif decide ((a0.length:Int) < 1) then none else (Option.bind (getI a0 0) fun x3=>(F_slices_Min_int64_int64_L1 a0 (fun i13 i14=>(some i13)) n x3 1)))
theorem W_slices_Min_int64_int64 {n:Nat} {F:List Int} {r:Int} {w:World} {I:Value} {H:Nat} (hF:F_slices_Min_int64_int64 n F = some r) (hH:H ≤ w.heap.size) (D:slRep (cInt .i64) w (Iv 0 H) F I) :
    Calls Tryz.prog 292 [I].toArray w (Ret fun u N => u = .int .i64 r∧Ext w N):=by
  refine calls_ofD Tryz.func292 rfl Tryz.ntmps292 ?_;have G:Ext w w:=Ext.refl w;unfold F_slices_Min_int64_int64 at hF;refine Rc 9 (Yl rfl (yle rfl Tryz.underlying75 (D.oh hH G)) (Ro 3 (Wc rfl hF ?_ ?_)))
  · intro hF;cases hF
  · intro hF;refine Rc 5 ?_;obtain ⟨P,M,hF⟩:=bsome hF;refine Ye rfl (yix rfl Tryz.underlying75 cn_2 (D.oh hH G) M) ?_;rintro _ ⟨R,W,_,rfl,S,rfl,K⟩;refine Yl rfl (ylc 0 rfl ag_2 K rfl rfl) (Ro 10 ?_);refine WC.loopD (fun C a wl => ∃ (A:Int) (B:Int),Kn 25 [(0,I),(3,.int .i64 A),(4,.int .i64 B)] a∧Ext w wl∧w.heap.size ≤ wl.heap.size∧F_slices_Min_int64_int64_L1 F (fun A B => (some A)) C A B = some r) n ?_ ?_
    · intro a hK;exact ⟨P,1,hK.sub rfl,G,Nat.le_refl _,hF⟩
    · rintro C a X ⟨A,B,hK,E,U,hF⟩;revert a;change WC _ _ _ _ _ _
      cases C with
      | zero => exact nos hF
      | succ C =>
        rw [F_slices_Min_int64_int64_L1.eq_2] at hF;refine Rc 5 (Yl rfl (yle rfl Tryz.underlying75 (D.oh hH E)) (Ro 3 (Wc rfl hF ?_ ?_)))
        · intro hF;refine Rc 8 ?_;obtain ⟨O,L,hF⟩:=bsome hF;refine Ye rfl (yix rfl Tryz.underlying75 cn_2 (D.oh hH E) L) ?_;rintro _ ⟨Q,V,_,rfl,T,rfl,J⟩;refine Yl rfl (ylc 0 rfl ag_2 J rfl rfl) (Yl rfl (yld_min2 rfl rfl rfl) (Ro 10 ?_));intro a hK;exact ⟨C,Nat.le.refl,(min A O),(IntKind.wrap .i64 (B + 1)),hK.sub rfl,E,(by omega),hF⟩
        · intro hF;refine Rc 12 ?_;obtain rfl:=szs hF;exact Ne rfl rfl ⟨_,rfl,rfl,E⟩
def F_slices_Clone_int64_int64 (n:Nat) (a0:List Int):Option (List Int):=(Option.bind (appN (([]:List Int)) a0 8) fun z15=>(some z15))
theorem W_slices_Clone_int64_int64 {n:Nat} {B:List Int} {r:List Int} {w:World} {K:Value} {H:Nat} (hF:F_slices_Clone_int64_int64 n B = some r) (hH:H ≤ w.heap.size) (C:slRep (cInt .i64) w (Iv 0 H) B K) :
    Calls Tryz.prog 192 [K].toArray w (Ret fun u L => ∃ J,u = J∧ownR (cInt .i64) L w.heap.size (Iv 0 0) 2 r J∧Ext w L):=by
  refine calls_ofD Tryz.func192 rfl Tryz.ntmps192 ?_;have A:Ext w w:=Ext.refl w;unfold F_slices_Clone_int64_int64 at hF;refine Rc 9 ?_
  rcases slRep.nil_or (C.oh hH A) with ⟨rfl,hnil⟩ | ⟨p_,n_,c_,rfl⟩
  · replace hF:(some (([]:List Int))) = some r:=(by simpa [hnil,appN] using hF);refine Yl rfl (yld_eqnil_t rfl Tryz.underlying75 rfl rfl) (Ro 2 (WC.cond_t rfl (Rc 7 ?_)));obtain rfl:=szs hF;exact Ne rfl rfl ⟨_,rfl,_,rfl,ownR.nil _ _ _ _ _,A⟩
  · refine Yl rfl (yld_eqnil_f rfl Tryz.underlying75 rfl rfl) (Ro 2 (WC.cond_f rfl (Rc 4 ?_)));refine Ef rfl (eff_buildSlice (c:=(cInt .i64)) (xs:=([]:List Int)) (S:=(Iv 0 0)) (uss:=[]) (out:=[]) rfl Tryz.underlying75 in_2 rfl rfl (fillL_all [] rfl rfl rfl) rfl rfl rfl rfl (one_rep (uss:=[]) (show reps _ _ _ _ _ from trivial) rfl) (fun k h => by have:=h.2;omega) rfl) ?_;rintro Y a ⟨Q,I,T,W,P,O⟩;obtain ⟨E,U⟩:=Et A P;have D:=bd_of I;clear I;refine Ro 1 ?_;obtain ⟨b,M,hF⟩:=bsome hF;refine Ef rfl (eff_appendF (c:=(cInt .i64)) rfl Tryz.underlying75 in_2 rfl rfl rfl rfl rfl O (by omega) (C.oh hH E) M) ?_;rintro X Z ⟨G,F⟩;obtain ⟨N,V⟩:=Ge E F D (by omega);have R:=Gd2 F G D (by omega) (by omega);refine Ro 4 ?_;obtain rfl:=szs hF;exact Ne rfl rfl ⟨_,rfl,_,rfl,ownR.base G (by omega),N⟩
end Go.Proofs.YtjijjanefcaakaaGreatDoor
