/- The walks: every function that FnExactGatesOf reaches computes the plain function that is typed beside it; no condition. -/
import Derived.Test.YtpfgoednlfjebaaGreatDoorProg
import Derived.Test.YtpfgoednlfjebaaGreatDoorDat
import Derived.Test.YtpfgoednlfjebaaGreatDoorShelf
set_option linter.all false
set_option maxRecDepth 20000
set_option maxHeartbeats 40000000
namespace Go.Proofs.YtpfgoednlfjebaaGreatDoor
open Go Go.RowKit Go.Eng Go.Proofs.Tryz
open Go.IntKind (wrap)
variable {n H:Nat} {w:World}
theorem Tryz.hm : Tryz.prog.follows .mixedOrders = true := by kernel_rfl
theorem ag_100 : aggB prog 100 = some false := by kernel_rfl
theorem ag_101 : aggB prog 101 = some false := by kernel_rfl
theorem ag_116 : aggB prog 116 = some true := by kernel_rfl
theorem ag_126 : aggB prog 126 = some true := by kernel_rfl
theorem ag_130 : aggB prog 130 = some true := by kernel_rfl
theorem ag_140 : aggB prog 140 = some true := by kernel_rfl
theorem ag_165 : aggB prog 165 = some false := by kernel_rfl
theorem ag_166 : aggB prog 166 = some false := by kernel_rfl
theorem ag_168 : aggB prog 168 = some true := by kernel_rfl
theorem ag_170 : aggB prog 170 = some true := by kernel_rfl
theorem ag_172 : aggB prog 172 = some true := by kernel_rfl
theorem ag_2 : aggB prog 2 = some false := by kernel_rfl
theorem ag_207 : aggB prog 207 = some true := by kernel_rfl
theorem ag_215 : aggB prog 215 = some true := by kernel_rfl
theorem ag_217 : aggB prog 217 = some false := by kernel_rfl
theorem ag_219 : aggB prog 219 = some true := by kernel_rfl
theorem ag_22 : aggB prog 22 = some false := by kernel_rfl
theorem ag_231 : aggB prog 231 = some true := by kernel_rfl
theorem ag_24 : aggB prog 24 = some true := by kernel_rfl
theorem ag_242 : aggB prog 242 = some true := by kernel_rfl
theorem ag_25 : aggB prog 25 = some false := by kernel_rfl
theorem ag_252 : aggB prog 252 = some true := by kernel_rfl
theorem ag_26 : aggB prog 26 = some false := by kernel_rfl
theorem ag_27 : aggB prog 27 = some false := by kernel_rfl
theorem ag_29 : aggB prog 29 = some true := by kernel_rfl
theorem ag_3 : aggB prog 3 = some false := by kernel_rfl
theorem ag_30 : aggB prog 30 = some false := by kernel_rfl
theorem ag_32 : aggB prog 32 = some true := by kernel_rfl
theorem ag_33 : aggB prog 33 = some false := by kernel_rfl
theorem ag_37 : aggB prog 37 = some false := by kernel_rfl
theorem ag_39 : aggB prog 39 = some true := by kernel_rfl
theorem ag_4 : aggB prog 4 = some false := by kernel_rfl
theorem ag_40 : aggB prog 40 = some false := by kernel_rfl
theorem ag_41 : aggB prog 41 = some false := by kernel_rfl
theorem ag_43 : aggB prog 43 = some true := by kernel_rfl
theorem ag_44 : aggB prog 44 = some false := by kernel_rfl
theorem ag_46 : aggB prog 46 = some true := by kernel_rfl
theorem ag_66 : aggB prog 66 = some false := by kernel_rfl
theorem ag_68 : aggB prog 68 = some false := by kernel_rfl
theorem ag_71 : aggB prog 71 = some true := by kernel_rfl
theorem ag_72 : aggB prog 72 = some false := by kernel_rfl
theorem ag_74 : aggB prog 74 = some true := by kernel_rfl
theorem ag_80 : aggB prog 80 = some true := by kernel_rfl
theorem ag_82 : aggB prog 82 = some true := by kernel_rfl
theorem ag_83 : aggB prog 83 = some false := by kernel_rfl
theorem ag_84 : aggB prog 84 = some false := by kernel_rfl
theorem ag_86 : aggB prog 86 = some true := by kernel_rfl
theorem ag_88 : aggB prog 88 = some true := by kernel_rfl
theorem ag_9 : aggB prog 9 = some false := by kernel_rfl
theorem ag_92 : aggB prog 92 = some false := by kernel_rfl
theorem ag_99 : aggB prog 99 = some true := by kernel_rfl
theorem cn_101 : cellsN prog 101 = some 1 := by kernel_rfl
theorem cn_116 : cellsN prog 116 = some 4 := by kernel_rfl
theorem cn_126 : cellsN prog 126 = some 4 := by kernel_rfl
theorem cn_130 : cellsN prog 130 = some 3 := by kernel_rfl
theorem cn_140 : cellsN prog 140 = some 4 := by kernel_rfl
theorem cn_168 : cellsN prog 168 = some 7 := by kernel_rfl
theorem cn_170 : cellsN prog 170 = some 3 := by kernel_rfl
theorem cn_172 : cellsN prog 172 = some 3 := by kernel_rfl
theorem cn_2 : cellsN prog 2 = some 1 := by kernel_rfl
theorem cn_207 : cellsN prog 207 = some 2 := by kernel_rfl
theorem cn_215 : cellsN prog 215 = some 4 := by kernel_rfl
theorem cn_219 : cellsN prog 219 = some 6 := by kernel_rfl
theorem cn_231 : cellsN prog 231 = some 3 := by kernel_rfl
theorem cn_24 : cellsN prog 24 = some 1 := by kernel_rfl
theorem cn_242 : cellsN prog 242 = some 3 := by kernel_rfl
theorem cn_252 : cellsN prog 252 = some 2 := by kernel_rfl
theorem cn_26 : cellsN prog 26 = some 1 := by kernel_rfl
theorem cn_29 : cellsN prog 29 = some 3 := by kernel_rfl
theorem cn_3 : cellsN prog 3 = some 1 := by kernel_rfl
theorem cn_32 : cellsN prog 32 = some 5 := by kernel_rfl
theorem cn_33 : cellsN prog 33 = some 1 := by kernel_rfl
theorem cn_37 : cellsN prog 37 = some 1 := by kernel_rfl
theorem cn_39 : cellsN prog 39 = some 1 := by kernel_rfl
theorem cn_4 : cellsN prog 4 = some 1 := by kernel_rfl
theorem cn_40 : cellsN prog 40 = some 1 := by kernel_rfl
theorem cn_41 : cellsN prog 41 = some 1 := by kernel_rfl
theorem cn_43 : cellsN prog 43 = some 3 := by kernel_rfl
theorem cn_44 : cellsN prog 44 = some 1 := by kernel_rfl
theorem cn_46 : cellsN prog 46 = some 5 := by kernel_rfl
theorem cn_66 : cellsN prog 66 = some 1 := by kernel_rfl
theorem cn_71 : cellsN prog 71 = some 4 := by kernel_rfl
theorem cn_72 : cellsN prog 72 = some 1 := by kernel_rfl
theorem cn_74 : cellsN prog 74 = some 6 := by kernel_rfl
theorem cn_80 : cellsN prog 80 = some 4 := by kernel_rfl
theorem cn_82 : cellsN prog 82 = some 4 := by kernel_rfl
theorem cn_83 : cellsN prog 83 = some 1 := by kernel_rfl
theorem cn_84 : cellsN prog 84 = some 1 := by kernel_rfl
theorem cn_86 : cellsN prog 86 = some 7 := by kernel_rfl
theorem cn_88 : cellsN prog 88 = some 3 := by kernel_rfl
theorem cn_9 : cellsN prog 9 = some 1 := by kernel_rfl
theorem cn_99 : cellsN prog 99 = some 4 := by kernel_rfl
theorem fo_103_0 : fieldOff prog 103 0 = some 0 := by kernel_rfl
theorem fo_103_1 : fieldOff prog 103 1 = some 5 := by kernel_rfl
theorem fo_103_2 : fieldOff prog 103 2 = some 6 := by kernel_rfl
theorem fo_103_3 : fieldOff prog 103 3 = some 7 := by kernel_rfl
theorem fo_103_4 : fieldOff prog 103 4 = some 8 := by kernel_rfl
theorem fo_116_0 : fieldOff prog 116 0 = some 0 := by kernel_rfl
theorem fo_116_1 : fieldOff prog 116 1 = some 1 := by kernel_rfl
theorem fo_116_2 : fieldOff prog 116 2 = some 2 := by kernel_rfl
theorem fo_116_3 : fieldOff prog 116 3 = some 3 := by kernel_rfl
theorem fo_126_0 : fieldOff prog 126 0 = some 0 := by kernel_rfl
theorem fo_126_1 : fieldOff prog 126 1 = some 1 := by kernel_rfl
theorem fo_126_2 : fieldOff prog 126 2 = some 2 := by kernel_rfl
theorem fo_126_3 : fieldOff prog 126 3 = some 3 := by kernel_rfl
theorem fo_130_0 : fieldOff prog 130 0 = some 0 := by kernel_rfl
theorem fo_130_1 : fieldOff prog 130 1 = some 1 := by kernel_rfl
theorem fo_130_2 : fieldOff prog 130 2 = some 2 := by kernel_rfl
theorem fo_140_0 : fieldOff prog 140 0 = some 0 := by kernel_rfl
theorem fo_140_1 : fieldOff prog 140 1 = some 1 := by kernel_rfl
theorem fo_140_2 : fieldOff prog 140 2 = some 2 := by kernel_rfl
theorem fo_140_3 : fieldOff prog 140 3 = some 3 := by kernel_rfl
theorem fo_148_0 : fieldOff prog 148 0 = some 0 := by kernel_rfl
theorem fo_148_1 : fieldOff prog 148 1 = some 1 := by kernel_rfl
theorem fo_168_0 : fieldOff prog 168 0 = some 0 := by kernel_rfl
theorem fo_168_1 : fieldOff prog 168 1 = some 1 := by kernel_rfl
theorem fo_168_2 : fieldOff prog 168 2 = some 2 := by kernel_rfl
theorem fo_168_3 : fieldOff prog 168 3 = some 3 := by kernel_rfl
theorem fo_168_4 : fieldOff prog 168 4 = some 4 := by kernel_rfl
theorem fo_168_5 : fieldOff prog 168 5 = some 5 := by kernel_rfl
theorem fo_168_6 : fieldOff prog 168 6 = some 6 := by kernel_rfl
theorem fo_170_0 : fieldOff prog 170 0 = some 0 := by kernel_rfl
theorem fo_170_1 : fieldOff prog 170 1 = some 1 := by kernel_rfl
theorem fo_170_2 : fieldOff prog 170 2 = some 2 := by kernel_rfl
theorem fo_172_0 : fieldOff prog 172 0 = some 0 := by kernel_rfl
theorem fo_172_1 : fieldOff prog 172 1 = some 1 := by kernel_rfl
theorem fo_172_2 : fieldOff prog 172 2 = some 2 := by kernel_rfl
theorem fo_215_0 : fieldOff prog 215 0 = some 0 := by kernel_rfl
theorem fo_215_1 : fieldOff prog 215 1 = some 1 := by kernel_rfl
theorem fo_215_2 : fieldOff prog 215 2 = some 2 := by kernel_rfl
theorem fo_215_3 : fieldOff prog 215 3 = some 3 := by kernel_rfl
theorem fo_219_0 : fieldOff prog 219 0 = some 0 := by kernel_rfl
theorem fo_219_1 : fieldOff prog 219 1 = some 1 := by kernel_rfl
theorem fo_219_2 : fieldOff prog 219 2 = some 2 := by kernel_rfl
theorem fo_219_3 : fieldOff prog 219 3 = some 3 := by kernel_rfl
theorem fo_219_4 : fieldOff prog 219 4 = some 4 := by kernel_rfl
theorem fo_219_5 : fieldOff prog 219 5 = some 5 := by kernel_rfl
theorem fo_231_0 : fieldOff prog 231 0 = some 0 := by kernel_rfl
theorem fo_231_1 : fieldOff prog 231 1 = some 1 := by kernel_rfl
theorem fo_231_2 : fieldOff prog 231 2 = some 2 := by kernel_rfl
theorem fo_242_0 : fieldOff prog 242 0 = some 0 := by kernel_rfl
theorem fo_242_1 : fieldOff prog 242 1 = some 1 := by kernel_rfl
theorem fo_242_2 : fieldOff prog 242 2 = some 2 := by kernel_rfl
theorem fo_24_0 : fieldOff prog 24 0 = some 0 := by kernel_rfl
theorem fo_252_0 : fieldOff prog 252 0 = some 0 := by kernel_rfl
theorem fo_252_1 : fieldOff prog 252 1 = some 1 := by kernel_rfl
theorem fo_29_0 : fieldOff prog 29 0 = some 0 := by kernel_rfl
theorem fo_29_1 : fieldOff prog 29 1 = some 1 := by kernel_rfl
theorem fo_29_2 : fieldOff prog 29 2 = some 2 := by kernel_rfl
theorem fo_32_0 : fieldOff prog 32 0 = some 0 := by kernel_rfl
theorem fo_32_1 : fieldOff prog 32 1 = some 1 := by kernel_rfl
theorem fo_32_2 : fieldOff prog 32 2 = some 4 := by kernel_rfl
theorem fo_39_0 : fieldOff prog 39 0 = some 0 := by kernel_rfl
theorem fo_43_0 : fieldOff prog 43 0 = some 0 := by kernel_rfl
theorem fo_43_1 : fieldOff prog 43 1 = some 1 := by kernel_rfl
theorem fo_43_2 : fieldOff prog 43 2 = some 2 := by kernel_rfl
theorem fo_46_0 : fieldOff prog 46 0 = some 0 := by kernel_rfl
theorem fo_46_1 : fieldOff prog 46 1 = some 1 := by kernel_rfl
theorem fo_46_2 : fieldOff prog 46 2 = some 4 := by kernel_rfl
theorem fo_71_0 : fieldOff prog 71 0 = some 0 := by kernel_rfl
theorem fo_71_1 : fieldOff prog 71 1 = some 1 := by kernel_rfl
theorem fo_71_2 : fieldOff prog 71 2 = some 2 := by kernel_rfl
theorem fo_71_3 : fieldOff prog 71 3 = some 3 := by kernel_rfl
theorem fo_74_0 : fieldOff prog 74 0 = some 0 := by kernel_rfl
theorem fo_74_1 : fieldOff prog 74 1 = some 1 := by kernel_rfl
theorem fo_74_2 : fieldOff prog 74 2 = some 2 := by kernel_rfl
theorem fo_74_3 : fieldOff prog 74 3 = some 3 := by kernel_rfl
theorem fo_74_4 : fieldOff prog 74 4 = some 4 := by kernel_rfl
theorem fo_74_5 : fieldOff prog 74 5 = some 5 := by kernel_rfl
theorem fo_80_0 : fieldOff prog 80 0 = some 0 := by kernel_rfl
theorem fo_80_1 : fieldOff prog 80 1 = some 1 := by kernel_rfl
theorem fo_80_2 : fieldOff prog 80 2 = some 2 := by kernel_rfl
theorem fo_80_3 : fieldOff prog 80 3 = some 3 := by kernel_rfl
theorem fo_82_0 : fieldOff prog 82 0 = some 0 := by kernel_rfl
theorem fo_82_1 : fieldOff prog 82 1 = some 1 := by kernel_rfl
theorem fo_82_2 : fieldOff prog 82 2 = some 2 := by kernel_rfl
theorem fo_82_3 : fieldOff prog 82 3 = some 3 := by kernel_rfl
theorem fo_86_0 : fieldOff prog 86 0 = some 0 := by kernel_rfl
theorem fo_86_1 : fieldOff prog 86 1 = some 1 := by kernel_rfl
theorem fo_86_2 : fieldOff prog 86 2 = some 2 := by kernel_rfl
theorem fo_86_3 : fieldOff prog 86 3 = some 3 := by kernel_rfl
theorem fo_86_4 : fieldOff prog 86 4 = some 4 := by kernel_rfl
theorem fo_86_5 : fieldOff prog 86 5 = some 5 := by kernel_rfl
theorem fo_86_6 : fieldOff prog 86 6 = some 6 := by kernel_rfl
theorem fo_88_0 : fieldOff prog 88 0 = some 0 := by kernel_rfl
theorem fo_88_1 : fieldOff prog 88 1 = some 1 := by kernel_rfl
theorem fo_88_2 : fieldOff prog 88 2 = some 2 := by kernel_rfl
theorem fo_99_0 : fieldOff prog 99 0 = some 0 := by kernel_rfl
theorem fo_99_1 : fieldOff prog 99 1 = some 1 := by kernel_rfl
theorem fo_99_2 : fieldOff prog 99 2 = some 2 := by kernel_rfl
theorem fo_99_3 : fieldOff prog 99 3 = some 3 := by kernel_rfl
theorem ft_74_0 : fieldT prog 74 0 = some (2, 0) := by kernel_rfl
theorem gf_10 : goFn prog 10 = true := by kernel_rfl
theorem gf_100 : goFn prog 100 = true := by kernel_rfl
theorem gf_101 : goFn prog 101 = true := by kernel_rfl
theorem gf_102 : goFn prog 102 = true := by kernel_rfl
theorem gf_103 : goFn prog 103 = true := by kernel_rfl
theorem gf_104 : goFn prog 104 = true := by kernel_rfl
theorem gf_105 : goFn prog 105 = true := by kernel_rfl
theorem gf_106 : goFn prog 106 = true := by kernel_rfl
theorem gf_107 : goFn prog 107 = true := by kernel_rfl
theorem gf_108 : goFn prog 108 = true := by kernel_rfl
theorem gf_109 : goFn prog 109 = true := by kernel_rfl
theorem gf_11 : goFn prog 11 = true := by kernel_rfl
theorem gf_110 : goFn prog 110 = true := by kernel_rfl
theorem gf_111 : goFn prog 111 = true := by kernel_rfl
theorem gf_112 : goFn prog 112 = true := by kernel_rfl
theorem gf_113 : goFn prog 113 = true := by kernel_rfl
theorem gf_114 : goFn prog 114 = true := by kernel_rfl
theorem gf_115 : goFn prog 115 = true := by kernel_rfl
theorem gf_116 : goFn prog 116 = true := by kernel_rfl
theorem gf_117 : goFn prog 117 = true := by kernel_rfl
theorem gf_118 : goFn prog 118 = true := by kernel_rfl
theorem gf_119 : goFn prog 119 = true := by kernel_rfl
theorem gf_12 : goFn prog 12 = true := by kernel_rfl
theorem gf_120 : goFn prog 120 = true := by kernel_rfl
theorem gf_121 : goFn prog 121 = true := by kernel_rfl
theorem gf_122 : goFn prog 122 = true := by kernel_rfl
theorem gf_123 : goFn prog 123 = true := by kernel_rfl
theorem gf_124 : goFn prog 124 = true := by kernel_rfl
theorem gf_125 : goFn prog 125 = true := by kernel_rfl
theorem gf_126 : goFn prog 126 = true := by kernel_rfl
theorem gf_127 : goFn prog 127 = true := by kernel_rfl
theorem gf_128 : goFn prog 128 = true := by kernel_rfl
theorem gf_129 : goFn prog 129 = true := by kernel_rfl
theorem gf_13 : goFn prog 13 = true := by kernel_rfl
theorem gf_130 : goFn prog 130 = true := by kernel_rfl
theorem gf_131 : goFn prog 131 = true := by kernel_rfl
theorem gf_132 : goFn prog 132 = true := by kernel_rfl
theorem gf_133 : goFn prog 133 = true := by kernel_rfl
theorem gf_134 : goFn prog 134 = true := by kernel_rfl
theorem gf_135 : goFn prog 135 = true := by kernel_rfl
theorem gf_136 : goFn prog 136 = true := by kernel_rfl
theorem gf_137 : goFn prog 137 = true := by kernel_rfl
theorem gf_138 : goFn prog 138 = true := by kernel_rfl
theorem gf_139 : goFn prog 139 = true := by kernel_rfl
theorem gf_140 : goFn prog 140 = true := by kernel_rfl
theorem gf_141 : goFn prog 141 = true := by kernel_rfl
theorem gf_142 : goFn prog 142 = true := by kernel_rfl
theorem gf_143 : goFn prog 143 = true := by kernel_rfl
theorem gf_144 : goFn prog 144 = true := by kernel_rfl
theorem gf_145 : goFn prog 145 = true := by kernel_rfl
theorem gf_146 : goFn prog 146 = true := by kernel_rfl
theorem gf_147 : goFn prog 147 = true := by kernel_rfl
theorem gf_148 : goFn prog 148 = true := by kernel_rfl
theorem gf_149 : goFn prog 149 = true := by kernel_rfl
theorem gf_15 : goFn prog 15 = true := by kernel_rfl
theorem gf_150 : goFn prog 150 = true := by kernel_rfl
theorem gf_151 : goFn prog 151 = true := by kernel_rfl
theorem gf_152 : goFn prog 152 = true := by kernel_rfl
theorem gf_153 : goFn prog 153 = true := by kernel_rfl
theorem gf_154 : goFn prog 154 = true := by kernel_rfl
theorem gf_155 : goFn prog 155 = true := by kernel_rfl
theorem gf_156 : goFn prog 156 = true := by kernel_rfl
theorem gf_157 : goFn prog 157 = true := by kernel_rfl
theorem gf_158 : goFn prog 158 = true := by kernel_rfl
theorem gf_159 : goFn prog 159 = true := by kernel_rfl
theorem gf_16 : goFn prog 16 = true := by kernel_rfl
theorem gf_160 : goFn prog 160 = true := by kernel_rfl
theorem gf_161 : goFn prog 161 = true := by kernel_rfl
theorem gf_162 : goFn prog 162 = true := by kernel_rfl
theorem gf_163 : goFn prog 163 = true := by kernel_rfl
theorem gf_164 : goFn prog 164 = true := by kernel_rfl
theorem gf_165 : goFn prog 165 = true := by kernel_rfl
theorem gf_166 : goFn prog 166 = true := by kernel_rfl
theorem gf_167 : goFn prog 167 = true := by kernel_rfl
theorem gf_168 : goFn prog 168 = true := by kernel_rfl
theorem gf_169 : goFn prog 169 = true := by kernel_rfl
theorem gf_17 : goFn prog 17 = true := by kernel_rfl
theorem gf_170 : goFn prog 170 = true := by kernel_rfl
theorem gf_171 : goFn prog 171 = true := by kernel_rfl
theorem gf_172 : goFn prog 172 = true := by kernel_rfl
theorem gf_173 : goFn prog 173 = true := by kernel_rfl
theorem gf_174 : goFn prog 174 = true := by kernel_rfl
theorem gf_175 : goFn prog 175 = true := by kernel_rfl
theorem gf_176 : goFn prog 176 = true := by kernel_rfl
theorem gf_177 : goFn prog 177 = true := by kernel_rfl
theorem gf_178 : goFn prog 178 = true := by kernel_rfl
theorem gf_179 : goFn prog 179 = true := by kernel_rfl
theorem gf_18 : goFn prog 18 = true := by kernel_rfl
theorem gf_180 : goFn prog 180 = true := by kernel_rfl
theorem gf_181 : goFn prog 181 = true := by kernel_rfl
theorem gf_182 : goFn prog 182 = true := by kernel_rfl
theorem gf_183 : goFn prog 183 = true := by kernel_rfl
theorem gf_184 : goFn prog 184 = true := by kernel_rfl
theorem gf_19 : goFn prog 19 = true := by kernel_rfl
theorem gf_193 : goFn prog 193 = true := by kernel_rfl
theorem gf_194 : goFn prog 194 = true := by kernel_rfl
theorem gf_195 : goFn prog 195 = true := by kernel_rfl
theorem gf_196 : goFn prog 196 = true := by kernel_rfl
theorem gf_197 : goFn prog 197 = true := by kernel_rfl
theorem gf_198 : goFn prog 198 = true := by kernel_rfl
theorem gf_199 : goFn prog 199 = true := by kernel_rfl
theorem gf_20 : goFn prog 20 = true := by kernel_rfl
theorem gf_205 : goFn prog 205 = true := by kernel_rfl
theorem gf_206 : goFn prog 206 = true := by kernel_rfl
theorem gf_207 : goFn prog 207 = true := by kernel_rfl
theorem gf_208 : goFn prog 208 = true := by kernel_rfl
theorem gf_209 : goFn prog 209 = true := by kernel_rfl
theorem gf_21 : goFn prog 21 = true := by kernel_rfl
theorem gf_210 : goFn prog 210 = true := by kernel_rfl
theorem gf_211 : goFn prog 211 = true := by kernel_rfl
theorem gf_215 : goFn prog 215 = true := by kernel_rfl
theorem gf_216 : goFn prog 216 = true := by kernel_rfl
theorem gf_22 : goFn prog 22 = true := by kernel_rfl
theorem gf_23 : goFn prog 23 = true := by kernel_rfl
theorem gf_24 : goFn prog 24 = true := by kernel_rfl
theorem gf_25 : goFn prog 25 = true := by kernel_rfl
theorem gf_26 : goFn prog 26 = true := by kernel_rfl
theorem gf_27 : goFn prog 27 = true := by kernel_rfl
theorem gf_28 : goFn prog 28 = true := by kernel_rfl
theorem gf_29 : goFn prog 29 = true := by kernel_rfl
theorem gf_30 : goFn prog 30 = true := by kernel_rfl
theorem gf_31 : goFn prog 31 = true := by kernel_rfl
theorem gf_32 : goFn prog 32 = true := by kernel_rfl
theorem gf_33 : goFn prog 33 = true := by kernel_rfl
theorem gf_34 : goFn prog 34 = true := by kernel_rfl
theorem gf_36 : goFn prog 36 = true := by kernel_rfl
theorem gf_39 : goFn prog 39 = true := by kernel_rfl
theorem gf_40 : goFn prog 40 = true := by kernel_rfl
theorem gf_41 : goFn prog 41 = true := by kernel_rfl
theorem gf_42 : goFn prog 42 = true := by kernel_rfl
theorem gf_43 : goFn prog 43 = true := by kernel_rfl
theorem gf_44 : goFn prog 44 = true := by kernel_rfl
theorem gf_45 : goFn prog 45 = true := by kernel_rfl
theorem gf_46 : goFn prog 46 = true := by kernel_rfl
theorem gf_47 : goFn prog 47 = true := by kernel_rfl
theorem gf_48 : goFn prog 48 = true := by kernel_rfl
theorem gf_49 : goFn prog 49 = true := by kernel_rfl
theorem gf_5 : goFn prog 5 = true := by kernel_rfl
theorem gf_50 : goFn prog 50 = true := by kernel_rfl
theorem gf_51 : goFn prog 51 = true := by kernel_rfl
theorem gf_52 : goFn prog 52 = true := by kernel_rfl
theorem gf_53 : goFn prog 53 = true := by kernel_rfl
theorem gf_54 : goFn prog 54 = true := by kernel_rfl
theorem gf_55 : goFn prog 55 = true := by kernel_rfl
theorem gf_56 : goFn prog 56 = true := by kernel_rfl
theorem gf_57 : goFn prog 57 = true := by kernel_rfl
theorem gf_58 : goFn prog 58 = true := by kernel_rfl
theorem gf_59 : goFn prog 59 = true := by kernel_rfl
theorem gf_60 : goFn prog 60 = true := by kernel_rfl
theorem gf_61 : goFn prog 61 = true := by kernel_rfl
theorem gf_62 : goFn prog 62 = true := by kernel_rfl
theorem gf_63 : goFn prog 63 = true := by kernel_rfl
theorem gf_64 : goFn prog 64 = true := by kernel_rfl
theorem gf_65 : goFn prog 65 = true := by kernel_rfl
theorem gf_66 : goFn prog 66 = true := by kernel_rfl
theorem gf_67 : goFn prog 67 = true := by kernel_rfl
theorem gf_68 : goFn prog 68 = true := by kernel_rfl
theorem gf_69 : goFn prog 69 = true := by kernel_rfl
theorem gf_7 : goFn prog 7 = true := by kernel_rfl
theorem gf_70 : goFn prog 70 = true := by kernel_rfl
theorem gf_71 : goFn prog 71 = true := by kernel_rfl
theorem gf_72 : goFn prog 72 = true := by kernel_rfl
theorem gf_73 : goFn prog 73 = true := by kernel_rfl
theorem gf_74 : goFn prog 74 = true := by kernel_rfl
theorem gf_75 : goFn prog 75 = true := by kernel_rfl
theorem gf_76 : goFn prog 76 = true := by kernel_rfl
theorem gf_77 : goFn prog 77 = true := by kernel_rfl
theorem gf_78 : goFn prog 78 = true := by kernel_rfl
theorem gf_79 : goFn prog 79 = true := by kernel_rfl
theorem gf_8 : goFn prog 8 = true := by kernel_rfl
theorem gf_80 : goFn prog 80 = true := by kernel_rfl
theorem gf_81 : goFn prog 81 = true := by kernel_rfl
theorem gf_82 : goFn prog 82 = true := by kernel_rfl
theorem gf_83 : goFn prog 83 = true := by kernel_rfl
theorem gf_84 : goFn prog 84 = true := by kernel_rfl
theorem gf_85 : goFn prog 85 = true := by kernel_rfl
theorem gf_86 : goFn prog 86 = true := by kernel_rfl
theorem gf_87 : goFn prog 87 = true := by kernel_rfl
theorem gf_88 : goFn prog 88 = true := by kernel_rfl
theorem gf_89 : goFn prog 89 = true := by kernel_rfl
theorem gf_90 : goFn prog 90 = true := by kernel_rfl
theorem gf_91 : goFn prog 91 = true := by kernel_rfl
theorem gf_92 : goFn prog 92 = true := by kernel_rfl
theorem gf_93 : goFn prog 93 = true := by kernel_rfl
theorem gf_94 : goFn prog 94 = true := by kernel_rfl
theorem gf_95 : goFn prog 95 = true := by kernel_rfl
theorem gf_96 : goFn prog 96 = true := by kernel_rfl
theorem gf_97 : goFn prog 97 = true := by kernel_rfl
theorem gf_98 : goFn prog 98 = true := by kernel_rfl
theorem gf_99 : goFn prog 99 = true := by kernel_rfl
theorem in_116 : infoN prog 116 = some ([.i 0, .i 0, .i 0, .i 0], 4, 32) := by kernel_rfl
theorem in_130 : infoN prog 130 = some ([.string ByteArray.empty, .i 0, .i 0], 3, 32) := by kernel_rfl
theorem in_140 : infoN prog 140 = some ([.slice none 0 0, .slice none 0 0, .slice none 0 0, .slice none 0 0], 4, 96) := by kernel_rfl
theorem in_2 : infoN prog 2 = some ([.i 0], 1, 8) := by kernel_rfl
theorem in_207 : infoN prog 207 = some ([.i 0, .i 0], 2, 16) := by kernel_rfl
theorem in_231 : infoN prog 231 = some ([.slice none 0 0, .slice none 0 0, .slice none 0 0], 3, 72) := by kernel_rfl
theorem in_3 : infoN prog 3 = some ([.i 0], 1, 8) := by kernel_rfl
theorem in_33 : infoN prog 33 = some ([.slice none 0 0], 1, 24) := by kernel_rfl
theorem in_4 : infoN prog 4 = some ([.bool false], 1, 1) := by kernel_rfl
theorem in_5 : infoN prog 5 = some ([.int .u8 0], 1, 1) := by kernel_rfl
theorem in_71 : infoN prog 71 = some ([.i 0, .i 0, .i 0, .i 0], 4, 32) := by kernel_rfl
theorem in_74 : infoN prog 74 = some ([.i 0, .i 0, .i 0, .i 0, .slice none 0 0, .slice none 0 0], 6, 80) := by kernel_rfl
theorem in_80 : infoN prog 80 = some ([.i 0, .i 0, .i 0, .bool false], 4, 32) := by kernel_rfl
theorem in_82 : infoN prog 82 = some ([.string ByteArray.empty, .i 0, .i 0, .bool false], 4, 40) := by kernel_rfl
theorem in_86 : infoN prog 86 = some ([.string ByteArray.empty, .i 0, .slice none 0 0, .slice none 0 0, .slice none 0 0, .i 0, .i 0], 7, 112) := by kernel_rfl
theorem in_88 : infoN prog 88 = some ([.string ByteArray.empty, .i 0, .slice none 0 0], 3, 48) := by kernel_rfl
theorem in_9 : infoN prog 9 = some ([.string ByteArray.empty], 1, 16) := by kernel_rfl
theorem in_99 : infoN prog 99 = some ([.i 0, .i 0, .i 0, .bool false], 4, 32) := by kernel_rfl
theorem pl_103 : placesN prog 103 = some [(0, 5), (5, 1), (6, 1), (7, 1), (8, 1), (9, 1)] := by kernel_rfl
theorem pl_116 : placesN prog 116 = some [(0, 1), (1, 1), (2, 1), (3, 1)] := by kernel_rfl
theorem pl_148 : placesN prog 148 = some [(0, 1), (1, 1)] := by kernel_rfl
theorem pl_207 : placesN prog 207 = some [(0, 1), (1, 1)] := by kernel_rfl
theorem pl_252 : placesN prog 252 = some [(0, 1), (1, 1)] := by kernel_rfl
theorem pl_71 : placesN prog 71 = some [(0, 1), (1, 1), (2, 1), (3, 1)] := by kernel_rfl
theorem pl_80 : placesN prog 80 = some [(0, 1), (1, 1), (2, 1), (3, 1)] := by kernel_rfl
theorem pl_99 : placesN prog 99 = some [(0, 1), (1, 1), (2, 1), (3, 1)] := by kernel_rfl
theorem zn_103 : zeroN prog 103 = some [.slice none 0 0, .slice none 0 0, .slice none 0 0, .slice none 0 0, .slice none 0 0, .slice none 0 0, .slice none 0 0, .slice none 0 0, .slice none 0 0, .slice none 0 0] := by kernel_rfl
theorem zn_116 : zeroN prog 116 = some [.i 0, .i 0, .i 0, .i 0] := by kernel_rfl
theorem zn_130 : zeroN prog 130 = some [.string ByteArray.empty, .i 0, .i 0] := by kernel_rfl
theorem zn_140 : zeroN prog 140 = some [.slice none 0 0, .slice none 0 0, .slice none 0 0, .slice none 0 0] := by kernel_rfl
theorem zn_148 : zeroN prog 148 = some [.pointer none, .slice none 0 0] := by kernel_rfl
theorem zn_207 : zeroN prog 207 = some [.i 0, .i 0] := by kernel_rfl
theorem zn_231 : zeroN prog 231 = some [.slice none 0 0, .slice none 0 0, .slice none 0 0] := by kernel_rfl
theorem zn_252 : zeroN prog 252 = some [.i 0, .i 0] := by kernel_rfl
theorem zn_39 : zeroN prog 39 = some [.slice none 0 0] := by kernel_rfl
theorem zn_43 : zeroN prog 43 = some [.slice none 0 0, .slice none 0 0, .slice none 0 0] := by kernel_rfl
theorem zn_46 : zeroN prog 46 = some [.slice none 0 0, .slice none 0 0, .slice none 0 0, .slice none 0 0, .slice none 0 0] := by kernel_rfl
theorem zn_71 : zeroN prog 71 = some [.i 0, .i 0, .i 0, .i 0] := by kernel_rfl
theorem zn_74 : zeroN prog 74 = some [.i 0, .i 0, .i 0, .i 0, .slice none 0 0, .slice none 0 0] := by kernel_rfl
theorem zn_80 : zeroN prog 80 = some [.i 0, .i 0, .i 0, .bool false] := by kernel_rfl
theorem zn_82 : zeroN prog 82 = some [.string ByteArray.empty, .i 0, .i 0, .bool false] := by kernel_rfl
theorem zn_86 : zeroN prog 86 = some [.string ByteArray.empty, .i 0, .slice none 0 0, .slice none 0 0, .slice none 0 0, .i 0, .i 0] := by kernel_rfl
theorem zn_88 : zeroN prog 88 = some [.string ByteArray.empty, .i 0, .slice none 0 0] := by kernel_rfl
theorem zn_99 : zeroN prog 99 = some [.i 0, .i 0, .i 0, .bool false] := by kernel_rfl
def F_y_L1 (k0:Int→ByteArray→Option ByteArray):Nat→Int→ByteArray→Option ByteArray
  | 0, _, _=>none
  | m + 1, i3, t4=>(bif decide (i3 > 0) then ((catS ((strB ([IntKind.wrap IntKind.u8 (wrap .i64 (48 + (Int.tmod i3 10)))]))) t4).bind fun t17=>(F_y_L1 k0 m (wrap .i64 (Int.tdiv i3 10)) t17)) else (k0 i3 t4))
def F_y (n:Nat) (a0:Int):Option ByteArray:=(bif decide (a0 ≤ 0) then (some ((ByteArray.mk #[109, 48]))) else (F_y_L1 (fun i3 t4=>((catS ((ByteArray.mk #[109])) t4).bind fun t5=>(some t5))) n a0 ((ByteArray.mk #[]))))
theorem W_y {D:Int} {r:ByteArray} (hF:F_y n D = some r) :
    Calls prog 119 [.i D].toArray w (Ret fun u O => u = .string r∧Ext w O):=by
  refine calls_ofD func119 rfl ntmps119 ?_;have E:=Ext.refl w;unfold F_y at hF;refine Rc 12 (Wc rfl hF ?_ ?_)
  · intro hF;refine Rc 7 ?_;cases szt hF;exact Ne rfl rfl ⟨_,rfl,rfl,E⟩
  · intro hF;refine Rc 9 ?_;refine WC.loopD (fun B a wl => ∃ (A:Int) (C:ByteArray),Kn 20 [(0,.i A),(3,.string C)] a∧Ext w wl∧w.heap.size ≤ wl.heap.size∧F_y_L1 (fun A C => (Option.bind (catS ((ByteArray.mk #[109])) C) fun N => (some N))) B A C = some r) n ?_ ?_
    · intro a hK;exact ⟨D,((ByteArray.mk #[])),hK.sub rfl,E,Nat.le_refl _,hF⟩
    · rintro B a Y ⟨A,C,hK,F,V,hF⟩;revert a;change WC _ _ _ _ _ _
      cases B with
      | zero => exact nos hF
      | succ B =>
        rw [F_y_L1.eq_2] at hF;refine Rc 7 (Wc rfl hF ?_ ?_)
        · intro hF;refine Rc 8 (Yl rfl (yld_conv rfl underlying3 underlying5 rfl) ?_);refine Ef rfl (eff_buildSlice (c:=(cInt .u8)) (xs:=[IntKind.wrap IntKind.u8 (wrap .i64 (48 + (Int.tmod A 10)))]) (S:=(Iv 0 0)) (uss:=[(0,[.int .u8 (IntKind.wrap IntKind.u8 (wrap .i64 (48 + (Int.tmod A 10))))])]) (out:=[.int .u8 (IntKind.wrap IntKind.u8 (wrap .i64 (48 + (Int.tmod A 10))))]) rfl underlying212 in_5 rfl rfl (fillL_all [[.int .u8 (IntKind.wrap IntKind.u8 (wrap .i64 (48 + (Int.tmod A 10))))]] rfl rfl rfl) rfl rfl rfl rfl (one_rep (uss:=[[.int .u8 (IntKind.wrap IntKind.u8 (wrap .i64 (48 + (Int.tmod A 10))))]]) (show reps _ _ _ _ _ from ⟨rfl,trivial⟩) rfl) (fun k h => by have:=h.2;omega) rfl) ?_;rintro X Z ⟨P,G,R,T,L,I⟩;have ⟨H,U⟩:=Et F L;have Q:=bd_of G;clear G;refine Yl rfl (yld_bytes rfl underlying212 underlying5 underlying9 rfl (ownR.slf I nr nr)) (Ro 1 ?_);have ⟨M,J,hF⟩:=bsome hF;refine Yl rfl (yld_cat rfl rfl rfl J) (Ro 10 ?_);intro a hK;exact ⟨B,nr,(wrap .i64 (Int.tdiv A 10)),M,hK.sub rfl,H,(by omega),hF⟩
        · intro hF;refine Rc 8 ?_;have ⟨W,K,hF⟩:=bsome hF;refine Yl rfl (yld_cat rfl rfl rfl K) (Ro 4 ?_);cases szt hF;exact Ne rfl rfl ⟨_,rfl,rfl,F⟩
def F_0t_L1 (n:Nat) (a0:List S_Pin) (k0:Int→Int→Option Int):Nat→Int→Int→Option Int
  | 0, _, _=>none
  | m + 1, i5, i6=>(bif decide (i6 < (a0.length:Int)) then ((F_y n i5).bind fun r8=>((getI a0 i6).bind fun x14=>((getI a0 i6).bind fun x31=>((getI a0 i6).bind fun x48=>((getI a0 i6).bind fun x65=>(F_0t_L1 n a0 k0 m (wrap .i64 ((wrap .i64 ((wrap .i64 ((wrap .i64 (i5 + 1)) + 1)) + 1)) + 1)) (wrap .i64 (i6 + 1)))))))) else (k0 i5 i6))
def F_0t (n:Nat) (a0:List S_Pin) (a1:Int):Option Int:=(F_0t_L1 n a0 (fun i5 i6=>(some i5)) n a1 0)
theorem W_0t {E:List S_Pin} {K:Int} {r:Int} {lo hi:Nat} {J:Value} (hF:F_0t n E K = some r) (hlh:hi ≤ w.heap.size) (V:slRep C_PinS w (Iv lo hi) E J) :
    Calls prog 120 [J,.i K].toArray w (Ret fun u s => u = .i r∧Sim (Iv lo hi) w s):=by
  refine calls_ofD func120 rfl ntmps120 ?_;have b:Sim (Iv lo hi) w w:=Sim.refl _ w;unfold F_0t at hF;refine Rc 12 ?_;refine WC.loopD (fun D a wl => ∃ (B:Int) (C:Int),Kn 44 [(0,J),(1,.i B),(5,.i C)] a∧Sim (Iv lo hi) w wl∧w.heap.size ≤ wl.heap.size∧slRep C_PinS wl (Iv lo hi) E J∧F_0t_L1 n E (fun B C => (some B)) D B C = some r) n ?_ ?_
  · intro a hK;exact ⟨K,0,hK.sub rfl,b,Nat.le_refl _,V,hF⟩
  · rintro D a M0 ⟨B,C,hK,P,A0,A,hF⟩;revert a;change WC _ _ _ _ _ _
    cases D with
    | zero => exact nos hF
    | succ D =>
      rw [F_0t_L1.eq_2] at hF;refine Rc 5 (Yl rfl (yle rfl underlying83 A) (Ro 3 (Wc rfl hF ?_ ?_)))
      · intro hF;refine Rc 9 ?_;have ⟨F0,h,hF⟩:=bsome hF;refine Ef rfl (eca rfl gf_119 (W_y h :)) ?_;rintro _ K0 ⟨rfl,U⟩;have ⟨c,t⟩:=Est P U;have A:=A.old U (by omega);have ⟨Q0,m,hF⟩:=bsome hF;refine Ye rfl (yix rfl underlying83 cn_82 A m) ?_;rintro _ ⟨L,B0,G0,rfl,F,i,W⟩;have F:lo ≤ L∧L < hi:=⟨F.1,by have:=F.2;omega⟩;obtain ⟨U0,V0,W0,X0,rfl⟩:=C_PinS_open i;refine Yl rfl (yfa rfl fo_82_0) (Ef rfl (eff_soft 0 rfl W rfl rfl (.str _ _) cn_9 rfl rfl) ?_);rintro _ L0 Q;have ⟨d,v⟩:=Ess c Q (all_pB (Or.inl F));have A:=slRep.sim A Q;refine Ro 14 ?_;have ⟨R0,o,hF⟩:=bsome hF;refine Ye rfl (yix rfl underlying83 cn_82 A o) ?_;rintro _ ⟨M,C0,H0,rfl,G,j,X⟩;have G:lo ≤ M∧M < hi:=⟨G.1,by have:=G.2;omega⟩;obtain ⟨Y0,Z0,a0,b0,rfl⟩:=C_PinS_open j;refine Yl rfl (yfa rfl fo_82_1) (Ef rfl (eff_soft 1 rfl X rfl rfl (.int _ _ _) cn_2 rfl rfl) ?_);rintro _ N0 R;have ⟨e,x⟩:=Ess d R (all_pB (Or.inl G));have A:=slRep.sim A R;refine Ro 14 ?_;have ⟨S0,p,hF⟩:=bsome hF;refine Ye rfl (yix rfl underlying83 cn_82 A p) ?_;rintro _ ⟨N,D0,I0,rfl,H,k,Y⟩;have H:lo ≤ N∧N < hi:=⟨H.1,by have:=H.2;omega⟩;obtain ⟨c0,d0,e0,f0,rfl⟩:=C_PinS_open k;refine Yl rfl (yfa rfl fo_82_2) (Ef rfl (eff_soft 2 rfl Y rfl rfl (.int _ _ _) cn_2 rfl rfl) ?_);rintro _ O0 S;have ⟨f,y⟩:=Ess e S (all_pB (Or.inl H));have A:=slRep.sim A S;refine Ro 16 ?_;have ⟨T0,q,hF⟩:=bsome hF;refine Ye rfl (yix rfl underlying83 cn_82 A q) ?_;rintro _ ⟨O,E0,J0,rfl,I,l,Z⟩;have I:lo ≤ O∧O < hi:=⟨I.1,by have:=I.2;omega⟩;obtain ⟨g0,h0,i0,j0,rfl⟩:=C_PinS_open l;refine Yl rfl (yfa rfl fo_82_3) (Ef rfl (eff_soft 3 rfl Z rfl rfl (.bool _ _) cn_4 rfl rfl) ?_);rintro _ P0 T;have ⟨g,z⟩:=Ess f T (all_pB (Or.inl I));have A:=slRep.sim A T;refine Ro 15 ?_;intro a hK;exact ⟨D,nr,(wrap .i64 ((wrap .i64 ((wrap .i64 ((wrap .i64 (B + 1)) + 1)) + 1)) + 1)),(wrap .i64 (C + 1)),hK.sub rfl,g,(by omega),A,hF⟩
      · intro hF;refine Rc 12 ?_;cases szt hF;exact Ne rfl rfl ⟨_,rfl,rfl,P⟩
def F_g_L1 (a0:List Int) (k0:Int→Int→Option Int):Nat→Int→Int→Option Int
  | 0, _, _=>none
  | m + 1, i5, i6=>(bif decide (i6 < (a0.length:Int)) then ((getI a0 i6).bind fun x8=>(F_g_L1 a0 k0 m (wrap .i64 (i5 + 1)) (wrap .i64 (i6 + 1)))) else (k0 i5 i6))
def F_g (n:Nat) (a0:List Int) (a1:Int):Option Int:=(F_g_L1 a0 (fun i5 i6=>(some i5)) n a1 0)
theorem W_g {E:List Int} {H:Int} {r:Int} {lo hi:Nat} {G:Value} (hF:F_g n E H = some r) (hlh:hi ≤ w.heap.size) (L:slRep (cIntS .i64) w (Iv lo hi) E G) :
    Calls prog 13 [G,.i H].toArray w (Ret fun u Q => u = .i r∧Sim (Iv lo hi) w Q):=by
  refine calls_ofD func13 rfl ntmps13 ?_;have N:Sim (Iv lo hi) w w:=Sim.refl _ w;unfold F_g at hF;refine Rc 12 ?_;refine WC.loopD (fun D a wl => ∃ (A:Int) (C:Int),Kn 19 [(0,G),(1,.i A),(5,.i C)] a∧Sim (Iv lo hi) w wl∧w.heap.size ≤ wl.heap.size∧slRep (cIntS .i64) wl (Iv lo hi) E G∧F_g_L1 E (fun A C => (some A)) D A C = some r) n ?_ ?_
  · intro a hK;exact ⟨H,0,hK.sub rfl,N,Nat.le_refl _,L,hF⟩
  · rintro D a V ⟨A,C,hK,J,S,B,hF⟩;revert a;change WC _ _ _ _ _ _
    cases D with
    | zero => exact nos hF
    | succ D =>
      rw [F_g_L1.eq_2] at hF;refine Rc 5 (Yl rfl (yle rfl underlying33 B) (Ro 3 (Wc rfl hF ?_ ?_)))
      · intro hF;refine Rc 9 ?_;have ⟨W,P,hF⟩:=bsome hF;refine Ye rfl (yix rfl underlying33 cn_2 B P) ?_;rintro _ ⟨I,T,_,rfl,F,⟨X,rfl⟩,M⟩;have F:lo ≤ I∧I < hi:=⟨F.1,by have:=F.2;omega⟩;refine Ef rfl (eff_soft 0 rfl M rfl rfl (.int _ _ _) cn_2 rfl rfl) ?_;rintro _ U K;have ⟨O,R⟩:=Ess J K (all_pB (Or.inl F));have B:=slRep.sim B K;refine Ro 15 ?_;intro a hK;exact ⟨D,nr,(wrap .i64 (A + 1)),(wrap .i64 (C + 1)),hK.sub rfl,O,(by omega),B,hF⟩
      · intro hF;refine Rc 12 ?_;cases szt hF;exact Ne rfl rfl ⟨_,rfl,rfl,J⟩
def F_0i_L1 (n:Nat) (a0:List S_Table) (k0:Int→Int→Option Int):Nat→Int→Int→Option Int
  | 0, _, _=>none
  | m + 1, i5, i6=>(bif decide (i6 < (a0.length:Int)) then ((getI a0 i6).bind fun x8=>((F_g n x8.Slews i5).bind fun r23=>((getI a0 i6).bind fun x29=>((F_g n x29.Loads r23).bind fun r44=>((getI a0 i6).bind fun x50=>((F_g n x50.Values r44).bind fun r65=>(F_0i_L1 n a0 k0 m r65 (wrap .i64 (i6 + 1))))))))) else (k0 i5 i6))
def F_0i (n:Nat) (a0:List S_Table) (a1:Int):Option Int:=(F_0i_L1 n a0 (fun i5 i6=>(some i5)) n a1 0)
theorem W_0i {E:List S_Table} {G:Int} {r:Int} {lo hi:Nat} {F:Value} (hF:F_0i n E G = some r) (hlh:hi ≤ w.heap.size) (L:slRep C_TableS w (Iv lo hi) E F) :
    Calls prog 146 [F,.i G].toArray w (Ret fun u i => u = .i r∧Sim (Iv lo hi) w i):=by
  refine calls_ofD func146 rfl ntmps146 ?_;have P:Sim (Iv lo hi) w w:=Sim.refl _ w;unfold F_0i at hF;refine Rc 12 ?_;refine WC.loopD (fun D a wl => ∃ (B:Int) (C:Int),Kn 34 [(0,F),(1,.i B),(5,.i C)] a∧Sim (Iv lo hi) w wl∧w.heap.size ≤ wl.heap.size∧slRep C_TableS wl (Iv lo hi) E F∧F_0i_L1 n E (fun B C => (some B)) D B C = some r) n ?_ ?_
  · intro a hK;exact ⟨G,0,hK.sub rfl,P,Nat.le_refl _,L,hF⟩
  · rintro D a W0 ⟨B,C,hK,H,D0,A,hF⟩;revert a;change WC _ _ _ _ _ _
    cases D with
    | zero => exact nos hF
    | succ D =>
      rw [F_0i_L1.eq_2] at hF;refine Rc 5 (Yl rfl (yle rfl underlying72 A) (Ro 3 (Wc rfl hF ?_ ?_)))
      · intro hF;refine Rc 8 ?_;have ⟨Z0,d,hF⟩:=bsome hF;refine Ye rfl (yix rfl underlying72 cn_231 A d) ?_;rintro _ ⟨j,E0,J0,rfl,o,T,M⟩;obtain ⟨M0,N0,O0,rfl,Z,s,t⟩:=C_TableS_open T;refine Yl rfl (yfa rfl fo_231_0) (Yl rfl (ylc 0 rfl ag_33 M rfl rfl) (Ro 1 ?_));have ⟨H0,U,hF⟩:=bsome hF;refine Ef rfl (eca rfl gf_13 (W_g U (by omega) Z :)) ?_;rintro _ V0 ⟨rfl,I⟩;have ⟨Q,A0⟩:=Ess H I (fun k h => Or.inl h);have A:=slRep.sim A I;refine Ro 7 ?_;have ⟨a0,e,hF⟩:=bsome hF;refine Ye rfl (yix rfl underlying72 cn_231 A e) ?_;rintro _ ⟨l,F0,K0,rfl,p,V,N⟩;obtain ⟨P0,Q0,R0,rfl,v,b,x⟩:=C_TableS_open V;refine Yl rfl (yfa rfl fo_231_1) (Yl rfl (ylc 1 rfl ag_33 N rfl rfl) (Ro 1 ?_));have ⟨I0,W,hF⟩:=bsome hF;refine Ef rfl (eca rfl gf_13 (W_g W (by omega) b :)) ?_;rintro _ X0 ⟨rfl,J⟩;have ⟨R,B0⟩:=Ess Q J (fun k h => Or.inl h);have A:=slRep.sim A J;refine Ro 6 ?_;have ⟨b0,f,hF⟩:=bsome hF;refine Ye rfl (yix rfl underlying72 cn_231 A f) ?_;rintro _ ⟨m,G0,L0,rfl,q,X,O⟩;obtain ⟨S0,T0,U0,rfl,y,z,c⟩:=C_TableS_open X;refine Yl rfl (yfa rfl fo_231_2) (Yl rfl (ylc 2 rfl ag_33 O rfl rfl) (Ro 1 ?_));have ⟨g,Y,hF⟩:=bsome hF;refine Ef rfl (eca rfl gf_13 (W_g Y (by omega) c :)) ?_;rintro _ Y0 ⟨rfl,K⟩;have ⟨S,C0⟩:=Ess R K (fun k h => Or.inl h);have A:=slRep.sim A K;refine Ro 10 ?_;intro a hK;exact ⟨D,nr,g,(wrap .i64 (C + 1)),hK.sub rfl,S,(by omega),A,hF⟩
      · intro hF;refine Rc 12 ?_;cases szt hF;exact Ne rfl rfl ⟨_,rfl,rfl,H⟩
def F_0u_L1 (n:Nat) (a0:List S_Arc) (k0:Int→Int→Option Int):Nat→Int→Int→Option Int
  | 0, _, _=>none
  | m + 1, i5, i6=>(bif decide (i6 < (a0.length:Int)) then ((getI a0 i6).bind fun x8=>((getI a0 i6).bind fun x29=>((getI a0 i6).bind fun x50=>((getI a0 i6).bind fun x71=>((getI a0 i6).bind fun x92=>((F_0i n x92.Delay (wrap .i64 ((wrap .i64 ((wrap .i64 ((wrap .i64 (i5 + 1)) + 1)) + 1)) + 1))).bind fun r109=>((getI a0 i6).bind fun x115=>((F_0i n x115.Slew r109).bind fun r132=>(F_0u_L1 n a0 k0 m r132 (wrap .i64 (i6 + 1))))))))))) else (k0 i5 i6))
def F_0u (n:Nat) (a0:List S_Arc) (a1:Int):Option Int:=(F_0u_L1 n a0 (fun i5 i6=>(some i5)) n a1 0)
theorem W_0u {E:List S_Arc} {K:Int} {r:Int} {lo hi:Nat} {J:Value} (hF:F_0u n E K = some r) (hlh:hi ≤ w.heap.size) (W:slRep C_ArcS w (Iv lo hi) E J) :
    Calls prog 121 [J,.i K].toArray w (Ret fun u I0 => u = .i r∧Sim (Iv lo hi) w I0):=by
  refine calls_ofD func121 rfl ntmps121 ?_;have e:Sim (Iv lo hi) w w:=Sim.refl _ w;unfold F_0u at hF;refine Rc 12 ?_;refine WC.loopD (fun D a wl => ∃ (B:Int) (C:Int),Kn 55 [(0,J),(1,.i B),(5,.i C)] a∧Sim (Iv lo hi) w wl∧w.heap.size ≤ wl.heap.size∧slRep C_ArcS wl (Iv lo hi) E J∧F_0u_L1 n E (fun B C => (some B)) D B C = some r) n ?_ ?_
  · intro a hK;exact ⟨K,0,hK.sub rfl,e,Nat.le_refl _,W,hF⟩
  · rintro D a G1 ⟨B,C,hK,P,c0,A,hF⟩;revert a;change WC _ _ _ _ _ _
    cases D with
    | zero => exact nos hF
    | succ D =>
      rw [F_0u_L1.eq_2] at hF;refine Rc 5 (Yl rfl (yle rfl underlying84 A) (Ro 3 (Wc rfl hF ?_ ?_)))
      · intro hF;refine Rc 9 ?_;have ⟨K1,B0,hF⟩:=bsome hF;refine Ye rfl (yix rfl underlying84 cn_74 A B0) ?_;rintro _ ⟨L,f0,m0,rfl,F,s,Z⟩;have F:lo ≤ L∧L < hi:=⟨F.1,by have:=F.2;omega⟩;obtain ⟨Y1,Z1,a1,b1,v0,w0,rfl,P0,Q0⟩:=C_ArcS_open s;refine Yl rfl (yfa rfl fo_74_0) (Ef rfl (eff_soft 0 rfl Z rfl rfl (.int _ _ _) cn_2 rfl rfl) ?_);rintro _ F1 S;have ⟨i,Z0⟩:=Ess P S (all_pB (Or.inl F));have A:=slRep.sim A S;refine Ro 14 ?_;have ⟨M1,D0,hF⟩:=bsome hF;refine Ye rfl (yix rfl underlying84 cn_74 A D0) ?_;rintro _ ⟨M,g0,n0,rfl,G,t,b⟩;have G:lo ≤ M∧M < hi:=⟨G.1,by have:=G.2;omega⟩;obtain ⟨c1,d1,e1,f1,x0,y0,rfl,R0,S0⟩:=C_ArcS_open t;refine Yl rfl (yfa rfl fo_74_1) (Ef rfl (eff_soft 1 rfl b rfl rfl (.int _ _ _) cn_2 rfl rfl) ?_);rintro _ H1 T;have ⟨j,a0⟩:=Ess i T (all_pB (Or.inl G));have A:=slRep.sim A T;refine Ro 14 ?_;have ⟨N1,E0,hF⟩:=bsome hF;refine Ye rfl (yix rfl underlying84 cn_74 A E0) ?_;rintro _ ⟨N,h0,o0,rfl,H,v,c⟩;have H:lo ≤ N∧N < hi:=⟨H.1,by have:=H.2;omega⟩;obtain ⟨g1,h1,i1,j1,z0,A1,rfl,T0,U0⟩:=C_ArcS_open v;refine Yl rfl (yfa rfl fo_74_2) (Ef rfl (eff_soft 2 rfl c rfl rfl (.int _ _ _) cn_2 rfl rfl) ?_);rintro _ I1 U;have ⟨l,b0⟩:=Ess j U (all_pB (Or.inl H));have A:=slRep.sim A U;refine Ro 14 ?_;have ⟨O1,F0,hF⟩:=bsome hF;refine Ye rfl (yix rfl underlying84 cn_74 A F0) ?_;rintro _ ⟨O,i0,p0,rfl,I,x,d⟩;have I:lo ≤ O∧O < hi:=⟨I.1,by have:=I.2;omega⟩;obtain ⟨k1,l1,m1,n1,B1,C1,rfl,V0,W0⟩:=C_ArcS_open x;refine Yl rfl (yfa rfl fo_74_3) (Ef rfl (eff_soft 3 rfl d rfl rfl (.int _ _ _) cn_2 rfl rfl) ?_);rintro _ J1 V;have ⟨m,d0⟩:=Ess l V (all_pB (Or.inl I));have A:=slRep.sim A V;refine Ro 13 ?_;have ⟨P1,G0,hF⟩:=bsome hF;refine Ye rfl (yix rfl underlying84 cn_74 A G0) ?_;rintro _ ⟨K0,j0,q0,rfl,L0,y,X⟩;obtain ⟨Q1,R1,S1,T1,r0,s0,rfl,z,N0⟩:=C_ArcS_open y;refine Yl rfl (yfa rfl fo_74_4) (Yl rfl (ylc 4 rfl ag_72 X rfl rfl) (Ro 1 ?_));have ⟨k0,o,hF⟩:=bsome hF;refine Ef rfl (eca rfl gf_146 (W_0i o (by omega) z :)) ?_;rintro _ D1 ⟨rfl,Q⟩;have ⟨f,X0⟩:=Ess m Q (fun k h => Or.inl h);have A:=slRep.sim A Q;refine Ro 6 ?_;have ⟨L1,C0,hF⟩:=bsome hF;refine Ye rfl (yix rfl underlying84 cn_74 A C0) ?_;rintro _ ⟨J0,e0,l0,rfl,M0,p,Y⟩;obtain ⟨U1,V1,W1,X1,t0,u0,rfl,O0,A0⟩:=C_ArcS_open p;refine Yl rfl (yfa rfl fo_74_5) (Yl rfl (ylc 5 rfl ag_72 Y rfl rfl) (Ro 1 ?_));have ⟨H0,q,hF⟩:=bsome hF;refine Ef rfl (eca rfl gf_146 (W_0i q (by omega) A0 :)) ?_;rintro _ E1 ⟨rfl,R⟩;have ⟨g,Y0⟩:=Ess f R (fun k h => Or.inl h);have A:=slRep.sim A R;refine Ro 10 ?_;intro a hK;exact ⟨D,nr,H0,(wrap .i64 (C + 1)),hK.sub rfl,g,(by omega),A,hF⟩
      · intro hF;refine Rc 12 ?_;cases szt hF;exact Ne rfl rfl ⟨_,rfl,rfl,P⟩
def F_0v_L1 (n:Nat) (a0:List S_Cell) (k0:Int→Int→Option Int):Nat→Int→Int→Option Int
  | 0, _, _=>none
  | m + 1, i5, i6=>(bif decide (i6 < (a0.length:Int)) then ((F_y n i5).bind fun r8=>((getI a0 i6).bind fun x14=>((getI a0 i6).bind fun x37=>((getI a0 i6).bind fun x60=>((F_0t n x60.Pins (wrap .i64 ((wrap .i64 (i5 + 1)) + 1))).bind fun r79=>((getI a0 i6).bind fun x85=>((F_0u n x85.Arcs r79).bind fun r104=>((getI a0 i6).bind fun x110=>((F_g n x110.Truth r104).bind fun r129=>((getI a0 i6).bind fun x135=>((getI a0 i6).bind fun x158=>(F_0v_L1 n a0 k0 m (wrap .i64 ((wrap .i64 (r129 + 1)) + 1)) (wrap .i64 (i6 + 1)))))))))))))) else (k0 i5 i6))
def F_0v (n:Nat) (a0:List S_Cell) (a1:Int):Option Int:=(F_0v_L1 n a0 (fun i5 i6=>(some i5)) n a1 0)
theorem W_0v {E:List S_Cell} {K:Int} {r:Int} {lo hi:Nat} {J:Value} (hF:F_0v n E K = some r) (hlh:hi ≤ w.heap.size) (Y:slRep C_CellS w (Iv lo hi) E J) :
    Calls prog 85 [J,.i K].toArray w (Ret fun u S0 => u = .i r∧Sim (Iv lo hi) w S0):=by
  refine calls_ofD func85 rfl ntmps85 ?_;have i:Sim (Iv lo hi) w w:=Sim.refl _ w;unfold F_0v at hF;refine Rc 12 ?_;refine WC.loopD (fun D a wl => ∃ (B:Int) (C:Int),Kn 63 [(0,J),(1,.i B),(5,.i C)] a∧Sim (Iv lo hi) w wl∧w.heap.size ≤ wl.heap.size∧slRep C_CellS wl (Iv lo hi) E J∧F_0v_L1 n E (fun B C => (some B)) D B C = some r) n ?_ ?_
  · intro a hK;exact ⟨K,0,hK.sub rfl,i,Nat.le_refl _,Y,hF⟩
  · rintro D a r1 ⟨B,C,hK,P,z0,A,hF⟩;revert a;change WC _ _ _ _ _ _
    cases D with
    | zero => exact nos hF
    | succ D =>
      rw [F_0v_L1.eq_2] at hF;refine Rc 5 (Yl rfl (yle rfl underlying37 A) (Ro 3 (Wc rfl hF ?_ ?_)))
      · intro hF;refine Rc 9 ?_;have ⟨H1,x,hF⟩:=bsome hF;refine Ef rfl (eca rfl gf_119 (W_y x :)) ?_;rintro _ n1 ⟨rfl,X⟩;have ⟨m,t0⟩:=Est P X;have A:=A.old X (by omega);have ⟨x1,N0,hF⟩:=bsome hF;refine Ye rfl (yix rfl underlying37 cn_86 A N0) ?_;rintro _ ⟨N,D1,N1,rfl,H,C0,d⟩;have H:lo ≤ N∧N < hi:=⟨H.1,by have:=H.2;omega⟩;obtain ⟨O2,P2,Q2,R2,d1,e1,f1,rfl,j0,k0,l0⟩:=C_CellS_open C0;refine Yl rfl (yfa rfl fo_86_0) (Ef rfl (eff_soft 0 rfl d rfl rfl (.str _ _) cn_9 rfl rfl) ?_);rintro _ s1 U;have ⟨q,w0⟩:=Ess m U (all_pB (Or.inl H));have A:=slRep.sim A U;refine Ro 14 ?_;have ⟨z1,O0,hF⟩:=bsome hF;refine Ye rfl (yix rfl underlying37 cn_86 A O0) ?_;rintro _ ⟨O,E1,O1,rfl,I,D0,e⟩;have I:lo ≤ O∧O < hi:=⟨I.1,by have:=I.2;omega⟩;obtain ⟨S2,T2,U2,V2,g1,h1,i1,rfl,m0,n0,o0⟩:=C_CellS_open D0;refine Yl rfl (yfa rfl fo_86_1) (Ef rfl (eff_soft 1 rfl e rfl rfl (.int _ _ _) cn_2 rfl rfl) ?_);rintro _ t1 V;have ⟨s,x0⟩:=Ess q V (all_pB (Or.inl I));have A:=slRep.sim A V;refine Ro 13 ?_;have ⟨A2,P0,hF⟩:=bsome hF;refine Ye rfl (yix rfl underlying37 cn_86 A P0) ?_;rintro _ ⟨U0,F1,P1,rfl,X0,E0,f⟩;obtain ⟨W2,X2,Y2,Z2,j1,k1,l1,rfl,J0,p0,q0⟩:=C_CellS_open E0;refine Yl rfl (yfa rfl fo_86_2) (Yl rfl (ylc 2 rfl ag_83 f rfl rfl) (Ro 1 ?_));have ⟨J1,F0,hF⟩:=bsome hF;refine Ef rfl (eca rfl gf_120 (W_0t F0 (by omega) J0 :)) ?_;rintro _ u1 ⟨rfl,W⟩;have ⟨t,y0⟩:=Ess s W (fun k h => Or.inl h);have A:=slRep.sim A W;refine Ro 7 ?_;have ⟨B2,Q0,hF⟩:=bsome hF;refine Ye rfl (yix rfl underlying37 cn_86 A Q0) ?_;rintro _ ⟨V0,G1,Q1,rfl,Y0,G0,g⟩;obtain ⟨a2,b2,c2,d2,R1,S1,T1,rfl,Z0,H0,a0⟩:=C_CellS_open G0;refine Yl rfl (yfa rfl fo_86_3) (Yl rfl (ylc 3 rfl ag_84 g rfl rfl) (Ro 1 ?_));have ⟨I1,v,hF⟩:=bsome hF;refine Ef rfl (eca rfl gf_121 (W_0u v (by omega) H0 :)) ?_;rintro _ m1 ⟨rfl,Q⟩;have ⟨j,r0⟩:=Ess t Q (fun k h => Or.inl h);have A:=slRep.sim A Q;refine Ro 7 ?_;have ⟨v1,K0,hF⟩:=bsome hF;refine Ye rfl (yix rfl underlying37 cn_86 A K0) ?_;rintro _ ⟨T0,A1,K1,rfl,W0,y,Z⟩;obtain ⟨C2,D2,E2,F2,U1,V1,W1,rfl,b0,c0,I0⟩:=C_CellS_open y;refine Yl rfl (yfa rfl fo_86_4) (Yl rfl (ylc 4 rfl ag_33 Z rfl rfl) (Ro 1 ?_));have ⟨R0,z,hF⟩:=bsome hF;refine Ef rfl (eca rfl gf_13 (W_g z (by omega) I0 :)) ?_;rintro _ o1 ⟨rfl,R⟩;have ⟨l,s0⟩:=Ess j R (fun k h => Or.inl h);have A:=slRep.sim A R;refine Ro 8 ?_;have ⟨w1,L0,hF⟩:=bsome hF;refine Ye rfl (yix rfl underlying37 cn_86 A L0) ?_;rintro _ ⟨L,B1,L1,rfl,F,A0,b⟩;have F:lo ≤ L∧L < hi:=⟨F.1,by have:=F.2;omega⟩;obtain ⟨G2,H2,I2,J2,X1,Y1,Z1,rfl,d0,e0,f0⟩:=C_CellS_open A0;refine Yl rfl (yfa rfl fo_86_5) (Ef rfl (eff_soft 5 rfl b rfl rfl (.int _ _ _) cn_2 rfl rfl) ?_);rintro _ p1 S;have ⟨o,u0⟩:=Ess l S (all_pB (Or.inl F));have A:=slRep.sim A S;refine Ro 14 ?_;have ⟨y1,M0,hF⟩:=bsome hF;refine Ye rfl (yix rfl underlying37 cn_86 A M0) ?_;rintro _ ⟨M,C1,M1,rfl,G,B0,c⟩;have G:lo ≤ M∧M < hi:=⟨G.1,by have:=G.2;omega⟩;obtain ⟨K2,L2,M2,N2,a1,b1,c1,rfl,g0,h0,i0⟩:=C_CellS_open B0;refine Yl rfl (yfa rfl fo_86_6) (Ef rfl (eff_soft 6 rfl c rfl rfl (.int _ _ _) cn_2 rfl rfl) ?_);rintro _ q1 T;have ⟨p,v0⟩:=Ess o T (all_pB (Or.inl G));have A:=slRep.sim A T;refine Ro 15 ?_;intro a hK;exact ⟨D,nr,(wrap .i64 ((wrap .i64 (R0 + 1)) + 1)),(wrap .i64 (C + 1)),hK.sub rfl,p,(by omega),A,hF⟩
      · intro hF;refine Rc 12 ?_;cases szt hF;exact Ne rfl rfl ⟨_,rfl,rfl,P⟩
def F_37 (n : Nat) (a0_s : ByteArray) (a1_cutset : ByteArray) : Option ByteArray := if a0_s.size ≤ 9223372036854775807 ∧ a1_cutset.size < 4294967281 ∧ (a1_cutset.data.toList.all fun b => decide (b.toNat < 128)) = true then some ⟨(Lib.trimS a0_s.data.toList a1_cutset.data.toList).toArray⟩ else none
theorem W_37 {n : Nat} {a0_s : ByteArray} {a1_cutset : ByteArray} {r : ByteArray} {w : World} (hF : F_37 n a0_s a1_cutset = some r) :
    Calls prog 176 [.string a0_s, .string a1_cutset].toArray w (Ret fun u w2 => u = .string r ∧ Ext w w2) := by
  unfold F_37 at hF
  split at hF
  · rename_i h
    obtain rfl := Option.some.inj hF
    refine (strings_Trim_ascii a0_s a1_cutset w h.1 h.2.1 (fun j b hb => of_decide_eq_true (List.all_eq_true.1 h.2.2 b (List.mem_of_getElem? hb)))).mono ?_
    rintro e w' ⟨rfl, hB⟩
    exact ⟨_, rfl, rfl, hB⟩
  · cases hF
def F_4e (n : Nat) (a0_s : ByteArray) (a1_c : Int) : Option Int := some (Lib.indexByte a0_s.data.toList a1_c.toNat.toUInt8)
theorem W_4e {n : Nat} {a0_s : ByteArray} {a1_c : Int} {r : Int} {w : World} (hF : F_4e n a0_s a1_c = some r) :
    Calls prog 177 [.string a0_s, .int .u8 a1_c].toArray w (Ret fun u w2 => u = .i r ∧ Ext w w2) := by
  obtain rfl := Option.some.inj hF
  refine (strings_IndexByte a0_s a1_c w).mono ?_
  rintro e w' ⟨rfl, rfl⟩
  exact ⟨_, rfl, rfl, Ext.refl _⟩
def F_0w_L1 (a0:List ByteArray) (a1:ByteArray) (k0:Int→Option Int):Nat→Int→Option Int
  | 0, _=>none
  | m + 1, i5=>(bif decide (i5 < (a0.length:Int)) then ((getI a0 i5).bind fun x6=>(bif (a1.toList == x6.toList) then (some i5) else (F_0w_L1 a0 a1 k0 m (wrap .i64 (i5 + 1))))) else (k0 i5))
def F_0w (n:Nat) (a0:List ByteArray) (a1:ByteArray):Option Int:=(F_0w_L1 a0 a1 (fun i5=>(some (-1))) n 0)
theorem W_0w {C:List ByteArray} {D:ByteArray} {r:Int} {F:Value} (hF:F_0w n C D = some r) (hH:H ≤ w.heap.size) (G:slRep cStr w (Iv 0 H) C F) :
    Calls prog 182 [F,.string D].toArray w (Ret fun u L => u = .i r∧Ext w L):=by
  refine calls_ofD func182 rfl ntmps182 ?_;have I:=Ext.refl w;unfold F_0w at hF;refine Rc 9 (Yl rfl (yle rfl underlying26 (G.oh hH I)) (Ro 4 ?_));refine WC.loopD (fun B a wl => ∃ (A:Int),Kn 19 [(0,F),(1,.string D),(7,.i ((C.length:Int))),(8,.i A)] a∧Ext w wl∧w.heap.size ≤ wl.heap.size∧F_0w_L1 C D (fun A => (some (-1))) B A = some r) n ?_ ?_
  · intro a hK;exact ⟨0,hK.sub rfl,I,Nat.le_refl _,hF⟩
  · rintro B a Q ⟨A,hK,E,O,hF⟩;revert a;change WC _ _ _ _ _ _
    cases B with
    | zero => exact nos hF
    | succ B =>
      rw [F_0w_L1.eq_2] at hF;refine Rc 6 (Wc rfl hF ?_ ?_)
      · intro hF;refine Rc 15 ?_;have ⟨R,K,hF⟩:=bsome hF;refine Ye rfl (yix rfl underlying26 cn_9 (G.oh hH E) K) ?_;rintro _ ⟨M,P,_,rfl,N,rfl,J⟩;refine Yl rfl (ylc 0 rfl ag_9 J rfl rfl) (Ro 3 (Wc rfl hF ?_ ?_))
        · intro hF;refine Rc 12 ?_;cases szt hF;exact Ne rfl rfl ⟨_,rfl,rfl,E⟩
        · intro hF;refine Rc 8 ?_;intro a hK;exact ⟨B,nr,(wrap .i64 (A + 1)),hK.sub rfl,E,(by omega),hF⟩
      · intro hF;refine Rc 11 ?_;cases szt hF;exact Ne rfl rfl ⟨_,rfl,rfl,E⟩
def F_38 (n:Nat) (a0:List ByteArray) (a1:ByteArray):Option Bool:=((F_0w n a0 a1).bind fun r3=>(some (decide (r3 ≥ 0))))
theorem W_38 {A:List ByteArray} {B:ByteArray} {r:Bool} {D:Value} (hF:F_38 n A B = some r) (hH:H ≤ w.heap.size) (E:slRep cStr w (Iv 0 H) A D) :
    Calls prog 171 [D,.string B].toArray w (Ret fun u J => u = .bool r∧Ext w J):=by
  refine calls_ofD func171 rfl ntmps171 ?_;have C:=Ext.refl w;unfold F_38 at hF;refine Rc 9 ?_;have ⟨L,G,hF⟩:=bsome hF;refine Ef rfl (eca rfl gf_182 (W_0w G (by omega) (E.oh hH C) :)) ?_;rintro _ M ⟨rfl,I⟩;have ⟨F,K⟩:=Et C I;refine Ro 5 ?_;cases szt hF;exact Ne rfl rfl ⟨_,rfl,rfl,F⟩
def F_0x_L1 (a0:List Int) (k0:Int→Int→Option Int):Nat→Int→Int→Option Int
  | 0, _, _=>none
  | m + 1, i14, i15=>(bif decide (i15 < (a0.length:Int)) then ((getI a0 i15).bind fun x16=>(F_0x_L1 a0 k0 m (min i14 x16) (wrap .i64 (i15 + 1)))) else (k0 i14 i15))
def F_0x (n:Nat) (a0:List Int):Option Int:=(bif decide ((a0.length:Int) < 1) then none else ((getI a0 0).bind fun x3=>(F_0x_L1 a0 (fun i14 i15=>(some i14)) n x3 1)))
theorem W_0x {F:List Int} {r:Int} {I:Value} (hF:F_0x n F = some r) (hH:H ≤ w.heap.size) (D:slRep (cInt .i64) w (Iv 0 H) F I) :
    Calls prog 208 [I].toArray w (Ret fun u N => u = .i r∧Ext w N):=by
  refine calls_ofD func208 rfl ntmps208 ?_;have G:=Ext.refl w;unfold F_0x at hF;refine Rc 9 (Yl rfl (yle rfl underlying33 (D.oh hH G)) (Ro 3 (Wc rfl hF ?_ ?_)))
  · intro hF;cases hF
  · intro hF;refine Rc 5 ?_;have ⟨P,M,hF⟩:=bsome hF;refine Ye rfl (yix rfl underlying33 cn_2 (D.oh hH G) M) ?_;rintro _ ⟨R,W,_,rfl,S,rfl,K⟩;refine Yl rfl (ylc 0 rfl ag_2 K rfl rfl) (Ro 10 ?_);refine WC.loopD (fun C a wl => ∃ (A:Int) (B:Int),Kn 25 [(0,I),(3,.i A),(4,.i B)] a∧Ext w wl∧w.heap.size ≤ wl.heap.size∧F_0x_L1 F (fun A B => (some A)) C A B = some r) n ?_ ?_
    · intro a hK;exact ⟨P,1,hK.sub rfl,G,Nat.le_refl _,hF⟩
    · rintro C a X ⟨A,B,hK,E,U,hF⟩;revert a;change WC _ _ _ _ _ _
      cases C with
      | zero => exact nos hF
      | succ C =>
        rw [F_0x_L1.eq_2] at hF;refine Rc 5 (Yl rfl (yle rfl underlying33 (D.oh hH E)) (Ro 3 (Wc rfl hF ?_ ?_)))
        · intro hF;refine Rc 8 ?_;have ⟨O,L,hF⟩:=bsome hF;refine Ye rfl (yix rfl underlying33 cn_2 (D.oh hH E) L) ?_;rintro _ ⟨Q,V,_,rfl,T,rfl,J⟩;refine Yl rfl (ylc 0 rfl ag_2 J rfl rfl) (Yl rfl (yld_min2 rfl rfl rfl) (Ro 10 ?_));intro a hK;exact ⟨C,nr,(min A O),(wrap .i64 (B + 1)),hK.sub rfl,E,(by omega),hF⟩
        · intro hF;refine Rc 12 ?_;cases szt hF;exact Ne rfl rfl ⟨_,rfl,rfl,E⟩
def F_23 (n:Nat) (a0:List Int):Option (List Int):=((appN (([]:List Int)) a0 8).bind fun z15=>(some z15))
theorem W_23 {B:List Int} {r:List Int} {K:Value} (hF:F_23 n B = some r) (hH:H ≤ w.heap.size) (C:slRep (cInt .i64) w (Iv 0 H) B K) :
    Calls prog 115 [K].toArray w (Ret fun u L => ∃ J,u = J∧ownR (cInt .i64) L w.heap.size (Iv 0 0) 2 r J∧Ext w L):=by
  refine calls_ofD func115 rfl ntmps115 ?_;have A:=Ext.refl w;unfold F_23 at hF;refine Rc 9 ?_
  rcases slRep.nil_or (C.oh hH A) with ⟨rfl,hnil⟩ | ⟨p_,n_,c_,rfl⟩
  · replace hF:(some (([]:List Int))) = some r:=(by simpa [hnil,appN] using hF);refine Yl rfl (yld_eqnil_t rfl underlying33 rfl rfl) (Ro 2 (WC.cond_t rfl (Rc 7 ?_)));cases szt hF;exact Ne rfl rfl ⟨_,rfl,_,rfl,ownR.nil _ _ _ _ _,A⟩
  · refine Yl rfl (yld_eqnil_f rfl underlying33 rfl rfl) (Ro 2 (WC.cond_f rfl (Rc 4 ?_)));refine Ef rfl (eff_buildSlice (c:=(cInt .i64)) (xs:=([]:List Int)) (S:=(Iv 0 0)) (uss:=[]) (out:=[]) rfl underlying33 in_2 rfl rfl (fillL_all [] rfl rfl rfl) rfl rfl rfl rfl (one_rep (uss:=[]) (show reps _ _ _ _ _ from trivial) rfl) (fun k h => by have:=h.2;omega) rfl) ?_;rintro Y a ⟨Q,I,T,W,P,O⟩;have ⟨E,U⟩:=Et A P;have D:=bd_of I;clear I;refine Ro 1 ?_;have ⟨b,M,hF⟩:=bsome hF;refine Ef rfl (eff_appendF (c:=(cInt .i64)) rfl underlying33 in_2 rfl rfl rfl rfl rfl O (by omega) (C.oh hH E) M) ?_;rintro X Z ⟨G,F⟩;have ⟨N,V⟩:=Ge E F D (by omega);have R:=Gd2 F G D (by omega) (by omega);refine Ro 4 ?_;cases szt hF;exact Ne rfl rfl ⟨_,rfl,_,rfl,ownR.base G (by omega),N⟩
end Go.Proofs.YtpfgoednlfjebaaGreatDoor
