/- The walks: every function that FnExactClockPinsOf reaches computes the plain function that is typed beside it; no condition. -/
import Derived.Test.YtpfgoednlfjebaaGreatDoorProg
import Derived.Test.YtpfgoednlfjebaaGreatDoorDat
import Derived.Test.YtpfgoednlfjebaaGreatDoorShelf
set_option linter.all false
set_option maxRecDepth 20000
set_option maxHeartbeats 40000000
namespace Go.Proofs.YtpfgoednlfjebaaGreatDoor
open Go Go.RowKit Go.Eng Go.Proofs.Tryz
open Go.IntKind (wrap)
variable {n H:Nat} {w:World}
theorem Tryz.hm : Tryz.prog.follows .mixedOrders = true := by kernel_rfl
theorem ag_100 : aggB prog 100 = some false := by kernel_rfl
theorem ag_101 : aggB prog 101 = some false := by kernel_rfl
theorem ag_126 : aggB prog 126 = some true := by kernel_rfl
theorem ag_130 : aggB prog 130 = some true := by kernel_rfl
theorem ag_140 : aggB prog 140 = some true := by kernel_rfl
theorem ag_165 : aggB prog 165 = some false := by kernel_rfl
theorem ag_166 : aggB prog 166 = some false := by kernel_rfl
theorem ag_168 : aggB prog 168 = some true := by kernel_rfl
theorem ag_170 : aggB prog 170 = some true := by kernel_rfl
theorem ag_172 : aggB prog 172 = some true := by kernel_rfl
theorem ag_2 : aggB prog 2 = some false := by kernel_rfl
theorem ag_207 : aggB prog 207 = some true := by kernel_rfl
theorem ag_215 : aggB prog 215 = some true := by kernel_rfl
theorem ag_217 : aggB prog 217 = some false := by kernel_rfl
theorem ag_219 : aggB prog 219 = some true := by kernel_rfl
theorem ag_22 : aggB prog 22 = some false := by kernel_rfl
theorem ag_231 : aggB prog 231 = some true := by kernel_rfl
theorem ag_24 : aggB prog 24 = some true := by kernel_rfl
theorem ag_242 : aggB prog 242 = some true := by kernel_rfl
theorem ag_25 : aggB prog 25 = some false := by kernel_rfl
theorem ag_252 : aggB prog 252 = some true := by kernel_rfl
theorem ag_26 : aggB prog 26 = some false := by kernel_rfl
theorem ag_27 : aggB prog 27 = some false := by kernel_rfl
theorem ag_29 : aggB prog 29 = some true := by kernel_rfl
theorem ag_3 : aggB prog 3 = some false := by kernel_rfl
theorem ag_30 : aggB prog 30 = some false := by kernel_rfl
theorem ag_32 : aggB prog 32 = some true := by kernel_rfl
theorem ag_33 : aggB prog 33 = some false := by kernel_rfl
theorem ag_37 : aggB prog 37 = some false := by kernel_rfl
theorem ag_39 : aggB prog 39 = some true := by kernel_rfl
theorem ag_4 : aggB prog 4 = some false := by kernel_rfl
theorem ag_40 : aggB prog 40 = some false := by kernel_rfl
theorem ag_41 : aggB prog 41 = some false := by kernel_rfl
theorem ag_43 : aggB prog 43 = some true := by kernel_rfl
theorem ag_44 : aggB prog 44 = some false := by kernel_rfl
theorem ag_46 : aggB prog 46 = some true := by kernel_rfl
theorem ag_66 : aggB prog 66 = some false := by kernel_rfl
theorem ag_68 : aggB prog 68 = some false := by kernel_rfl
theorem ag_71 : aggB prog 71 = some true := by kernel_rfl
theorem ag_72 : aggB prog 72 = some false := by kernel_rfl
theorem ag_74 : aggB prog 74 = some true := by kernel_rfl
theorem ag_80 : aggB prog 80 = some true := by kernel_rfl
theorem ag_82 : aggB prog 82 = some true := by kernel_rfl
theorem ag_83 : aggB prog 83 = some false := by kernel_rfl
theorem ag_84 : aggB prog 84 = some false := by kernel_rfl
theorem ag_86 : aggB prog 86 = some true := by kernel_rfl
theorem ag_88 : aggB prog 88 = some true := by kernel_rfl
theorem ag_9 : aggB prog 9 = some false := by kernel_rfl
theorem ag_92 : aggB prog 92 = some false := by kernel_rfl
theorem ag_99 : aggB prog 99 = some true := by kernel_rfl
theorem cn_101 : cellsN prog 101 = some 1 := by kernel_rfl
theorem cn_126 : cellsN prog 126 = some 4 := by kernel_rfl
theorem cn_130 : cellsN prog 130 = some 3 := by kernel_rfl
theorem cn_140 : cellsN prog 140 = some 4 := by kernel_rfl
theorem cn_168 : cellsN prog 168 = some 7 := by kernel_rfl
theorem cn_170 : cellsN prog 170 = some 3 := by kernel_rfl
theorem cn_172 : cellsN prog 172 = some 3 := by kernel_rfl
theorem cn_2 : cellsN prog 2 = some 1 := by kernel_rfl
theorem cn_207 : cellsN prog 207 = some 2 := by kernel_rfl
theorem cn_215 : cellsN prog 215 = some 4 := by kernel_rfl
theorem cn_219 : cellsN prog 219 = some 6 := by kernel_rfl
theorem cn_231 : cellsN prog 231 = some 3 := by kernel_rfl
theorem cn_24 : cellsN prog 24 = some 1 := by kernel_rfl
theorem cn_242 : cellsN prog 242 = some 3 := by kernel_rfl
theorem cn_252 : cellsN prog 252 = some 2 := by kernel_rfl
theorem cn_26 : cellsN prog 26 = some 1 := by kernel_rfl
theorem cn_29 : cellsN prog 29 = some 3 := by kernel_rfl
theorem cn_3 : cellsN prog 3 = some 1 := by kernel_rfl
theorem cn_32 : cellsN prog 32 = some 5 := by kernel_rfl
theorem cn_33 : cellsN prog 33 = some 1 := by kernel_rfl
theorem cn_37 : cellsN prog 37 = some 1 := by kernel_rfl
theorem cn_39 : cellsN prog 39 = some 1 := by kernel_rfl
theorem cn_4 : cellsN prog 4 = some 1 := by kernel_rfl
theorem cn_40 : cellsN prog 40 = some 1 := by kernel_rfl
theorem cn_41 : cellsN prog 41 = some 1 := by kernel_rfl
theorem cn_43 : cellsN prog 43 = some 3 := by kernel_rfl
theorem cn_44 : cellsN prog 44 = some 1 := by kernel_rfl
theorem cn_46 : cellsN prog 46 = some 5 := by kernel_rfl
theorem cn_66 : cellsN prog 66 = some 1 := by kernel_rfl
theorem cn_71 : cellsN prog 71 = some 4 := by kernel_rfl
theorem cn_72 : cellsN prog 72 = some 1 := by kernel_rfl
theorem cn_74 : cellsN prog 74 = some 6 := by kernel_rfl
theorem cn_80 : cellsN prog 80 = some 4 := by kernel_rfl
theorem cn_82 : cellsN prog 82 = some 4 := by kernel_rfl
theorem cn_83 : cellsN prog 83 = some 1 := by kernel_rfl
theorem cn_84 : cellsN prog 84 = some 1 := by kernel_rfl
theorem cn_86 : cellsN prog 86 = some 7 := by kernel_rfl
theorem cn_88 : cellsN prog 88 = some 3 := by kernel_rfl
theorem cn_9 : cellsN prog 9 = some 1 := by kernel_rfl
theorem cn_99 : cellsN prog 99 = some 4 := by kernel_rfl
theorem fo_103_0 : fieldOff prog 103 0 = some 0 := by kernel_rfl
theorem fo_103_1 : fieldOff prog 103 1 = some 5 := by kernel_rfl
theorem fo_103_2 : fieldOff prog 103 2 = some 6 := by kernel_rfl
theorem fo_103_3 : fieldOff prog 103 3 = some 7 := by kernel_rfl
theorem fo_103_4 : fieldOff prog 103 4 = some 8 := by kernel_rfl
theorem fo_126_0 : fieldOff prog 126 0 = some 0 := by kernel_rfl
theorem fo_126_1 : fieldOff prog 126 1 = some 1 := by kernel_rfl
theorem fo_126_2 : fieldOff prog 126 2 = some 2 := by kernel_rfl
theorem fo_126_3 : fieldOff prog 126 3 = some 3 := by kernel_rfl
theorem fo_130_0 : fieldOff prog 130 0 = some 0 := by kernel_rfl
theorem fo_130_1 : fieldOff prog 130 1 = some 1 := by kernel_rfl
theorem fo_130_2 : fieldOff prog 130 2 = some 2 := by kernel_rfl
theorem fo_140_0 : fieldOff prog 140 0 = some 0 := by kernel_rfl
theorem fo_140_1 : fieldOff prog 140 1 = some 1 := by kernel_rfl
theorem fo_140_2 : fieldOff prog 140 2 = some 2 := by kernel_rfl
theorem fo_140_3 : fieldOff prog 140 3 = some 3 := by kernel_rfl
theorem fo_148_0 : fieldOff prog 148 0 = some 0 := by kernel_rfl
theorem fo_148_1 : fieldOff prog 148 1 = some 1 := by kernel_rfl
theorem fo_168_0 : fieldOff prog 168 0 = some 0 := by kernel_rfl
theorem fo_168_1 : fieldOff prog 168 1 = some 1 := by kernel_rfl
theorem fo_168_2 : fieldOff prog 168 2 = some 2 := by kernel_rfl
theorem fo_168_3 : fieldOff prog 168 3 = some 3 := by kernel_rfl
theorem fo_168_4 : fieldOff prog 168 4 = some 4 := by kernel_rfl
theorem fo_168_5 : fieldOff prog 168 5 = some 5 := by kernel_rfl
theorem fo_168_6 : fieldOff prog 168 6 = some 6 := by kernel_rfl
theorem fo_170_0 : fieldOff prog 170 0 = some 0 := by kernel_rfl
theorem fo_170_1 : fieldOff prog 170 1 = some 1 := by kernel_rfl
theorem fo_170_2 : fieldOff prog 170 2 = some 2 := by kernel_rfl
theorem fo_172_0 : fieldOff prog 172 0 = some 0 := by kernel_rfl
theorem fo_172_1 : fieldOff prog 172 1 = some 1 := by kernel_rfl
theorem fo_172_2 : fieldOff prog 172 2 = some 2 := by kernel_rfl
theorem fo_215_0 : fieldOff prog 215 0 = some 0 := by kernel_rfl
theorem fo_215_1 : fieldOff prog 215 1 = some 1 := by kernel_rfl
theorem fo_215_2 : fieldOff prog 215 2 = some 2 := by kernel_rfl
theorem fo_215_3 : fieldOff prog 215 3 = some 3 := by kernel_rfl
theorem fo_219_0 : fieldOff prog 219 0 = some 0 := by kernel_rfl
theorem fo_219_1 : fieldOff prog 219 1 = some 1 := by kernel_rfl
theorem fo_219_2 : fieldOff prog 219 2 = some 2 := by kernel_rfl
theorem fo_219_3 : fieldOff prog 219 3 = some 3 := by kernel_rfl
theorem fo_219_4 : fieldOff prog 219 4 = some 4 := by kernel_rfl
theorem fo_219_5 : fieldOff prog 219 5 = some 5 := by kernel_rfl
theorem fo_231_0 : fieldOff prog 231 0 = some 0 := by kernel_rfl
theorem fo_231_1 : fieldOff prog 231 1 = some 1 := by kernel_rfl
theorem fo_231_2 : fieldOff prog 231 2 = some 2 := by kernel_rfl
theorem fo_242_0 : fieldOff prog 242 0 = some 0 := by kernel_rfl
theorem fo_242_1 : fieldOff prog 242 1 = some 1 := by kernel_rfl
theorem fo_242_2 : fieldOff prog 242 2 = some 2 := by kernel_rfl
theorem fo_24_0 : fieldOff prog 24 0 = some 0 := by kernel_rfl
theorem fo_252_0 : fieldOff prog 252 0 = some 0 := by kernel_rfl
theorem fo_252_1 : fieldOff prog 252 1 = some 1 := by kernel_rfl
theorem fo_29_0 : fieldOff prog 29 0 = some 0 := by kernel_rfl
theorem fo_29_1 : fieldOff prog 29 1 = some 1 := by kernel_rfl
theorem fo_29_2 : fieldOff prog 29 2 = some 2 := by kernel_rfl
theorem fo_32_0 : fieldOff prog 32 0 = some 0 := by kernel_rfl
theorem fo_32_1 : fieldOff prog 32 1 = some 1 := by kernel_rfl
theorem fo_32_2 : fieldOff prog 32 2 = some 4 := by kernel_rfl
theorem fo_39_0 : fieldOff prog 39 0 = some 0 := by kernel_rfl
theorem fo_43_0 : fieldOff prog 43 0 = some 0 := by kernel_rfl
theorem fo_43_1 : fieldOff prog 43 1 = some 1 := by kernel_rfl
theorem fo_43_2 : fieldOff prog 43 2 = some 2 := by kernel_rfl
theorem fo_46_0 : fieldOff prog 46 0 = some 0 := by kernel_rfl
theorem fo_46_1 : fieldOff prog 46 1 = some 1 := by kernel_rfl
theorem fo_46_2 : fieldOff prog 46 2 = some 4 := by kernel_rfl
theorem fo_71_0 : fieldOff prog 71 0 = some 0 := by kernel_rfl
theorem fo_71_1 : fieldOff prog 71 1 = some 1 := by kernel_rfl
theorem fo_71_2 : fieldOff prog 71 2 = some 2 := by kernel_rfl
theorem fo_71_3 : fieldOff prog 71 3 = some 3 := by kernel_rfl
theorem fo_74_0 : fieldOff prog 74 0 = some 0 := by kernel_rfl
theorem fo_74_1 : fieldOff prog 74 1 = some 1 := by kernel_rfl
theorem fo_74_2 : fieldOff prog 74 2 = some 2 := by kernel_rfl
theorem fo_74_3 : fieldOff prog 74 3 = some 3 := by kernel_rfl
theorem fo_74_4 : fieldOff prog 74 4 = some 4 := by kernel_rfl
theorem fo_74_5 : fieldOff prog 74 5 = some 5 := by kernel_rfl
theorem fo_80_0 : fieldOff prog 80 0 = some 0 := by kernel_rfl
theorem fo_80_1 : fieldOff prog 80 1 = some 1 := by kernel_rfl
theorem fo_80_2 : fieldOff prog 80 2 = some 2 := by kernel_rfl
theorem fo_80_3 : fieldOff prog 80 3 = some 3 := by kernel_rfl
theorem fo_82_0 : fieldOff prog 82 0 = some 0 := by kernel_rfl
theorem fo_82_1 : fieldOff prog 82 1 = some 1 := by kernel_rfl
theorem fo_82_2 : fieldOff prog 82 2 = some 2 := by kernel_rfl
theorem fo_82_3 : fieldOff prog 82 3 = some 3 := by kernel_rfl
theorem fo_86_0 : fieldOff prog 86 0 = some 0 := by kernel_rfl
theorem fo_86_1 : fieldOff prog 86 1 = some 1 := by kernel_rfl
theorem fo_86_2 : fieldOff prog 86 2 = some 2 := by kernel_rfl
theorem fo_86_3 : fieldOff prog 86 3 = some 3 := by kernel_rfl
theorem fo_86_4 : fieldOff prog 86 4 = some 4 := by kernel_rfl
theorem fo_86_5 : fieldOff prog 86 5 = some 5 := by kernel_rfl
theorem fo_86_6 : fieldOff prog 86 6 = some 6 := by kernel_rfl
theorem fo_88_0 : fieldOff prog 88 0 = some 0 := by kernel_rfl
theorem fo_88_1 : fieldOff prog 88 1 = some 1 := by kernel_rfl
theorem fo_88_2 : fieldOff prog 88 2 = some 2 := by kernel_rfl
theorem fo_99_0 : fieldOff prog 99 0 = some 0 := by kernel_rfl
theorem fo_99_1 : fieldOff prog 99 1 = some 1 := by kernel_rfl
theorem fo_99_2 : fieldOff prog 99 2 = some 2 := by kernel_rfl
theorem fo_99_3 : fieldOff prog 99 3 = some 3 := by kernel_rfl
theorem ft_74_0 : fieldT prog 74 0 = some (2, 0) := by kernel_rfl
theorem gf_10 : goFn prog 10 = true := by kernel_rfl
theorem gf_100 : goFn prog 100 = true := by kernel_rfl
theorem gf_101 : goFn prog 101 = true := by kernel_rfl
theorem gf_102 : goFn prog 102 = true := by kernel_rfl
theorem gf_103 : goFn prog 103 = true := by kernel_rfl
theorem gf_104 : goFn prog 104 = true := by kernel_rfl
theorem gf_105 : goFn prog 105 = true := by kernel_rfl
theorem gf_106 : goFn prog 106 = true := by kernel_rfl
theorem gf_107 : goFn prog 107 = true := by kernel_rfl
theorem gf_108 : goFn prog 108 = true := by kernel_rfl
theorem gf_109 : goFn prog 109 = true := by kernel_rfl
theorem gf_11 : goFn prog 11 = true := by kernel_rfl
theorem gf_110 : goFn prog 110 = true := by kernel_rfl
theorem gf_111 : goFn prog 111 = true := by kernel_rfl
theorem gf_112 : goFn prog 112 = true := by kernel_rfl
theorem gf_113 : goFn prog 113 = true := by kernel_rfl
theorem gf_114 : goFn prog 114 = true := by kernel_rfl
theorem gf_115 : goFn prog 115 = true := by kernel_rfl
theorem gf_116 : goFn prog 116 = true := by kernel_rfl
theorem gf_117 : goFn prog 117 = true := by kernel_rfl
theorem gf_118 : goFn prog 118 = true := by kernel_rfl
theorem gf_119 : goFn prog 119 = true := by kernel_rfl
theorem gf_12 : goFn prog 12 = true := by kernel_rfl
theorem gf_120 : goFn prog 120 = true := by kernel_rfl
theorem gf_121 : goFn prog 121 = true := by kernel_rfl
theorem gf_122 : goFn prog 122 = true := by kernel_rfl
theorem gf_124 : goFn prog 124 = true := by kernel_rfl
theorem gf_125 : goFn prog 125 = true := by kernel_rfl
theorem gf_126 : goFn prog 126 = true := by kernel_rfl
theorem gf_127 : goFn prog 127 = true := by kernel_rfl
theorem gf_128 : goFn prog 128 = true := by kernel_rfl
theorem gf_129 : goFn prog 129 = true := by kernel_rfl
theorem gf_13 : goFn prog 13 = true := by kernel_rfl
theorem gf_130 : goFn prog 130 = true := by kernel_rfl
theorem gf_131 : goFn prog 131 = true := by kernel_rfl
theorem gf_132 : goFn prog 132 = true := by kernel_rfl
theorem gf_133 : goFn prog 133 = true := by kernel_rfl
theorem gf_134 : goFn prog 134 = true := by kernel_rfl
theorem gf_135 : goFn prog 135 = true := by kernel_rfl
theorem gf_136 : goFn prog 136 = true := by kernel_rfl
theorem gf_137 : goFn prog 137 = true := by kernel_rfl
theorem gf_138 : goFn prog 138 = true := by kernel_rfl
theorem gf_139 : goFn prog 139 = true := by kernel_rfl
theorem gf_14 : goFn prog 14 = true := by kernel_rfl
theorem gf_140 : goFn prog 140 = true := by kernel_rfl
theorem gf_141 : goFn prog 141 = true := by kernel_rfl
theorem gf_142 : goFn prog 142 = true := by kernel_rfl
theorem gf_143 : goFn prog 143 = true := by kernel_rfl
theorem gf_144 : goFn prog 144 = true := by kernel_rfl
theorem gf_145 : goFn prog 145 = true := by kernel_rfl
theorem gf_146 : goFn prog 146 = true := by kernel_rfl
theorem gf_147 : goFn prog 147 = true := by kernel_rfl
theorem gf_148 : goFn prog 148 = true := by kernel_rfl
theorem gf_149 : goFn prog 149 = true := by kernel_rfl
theorem gf_150 : goFn prog 150 = true := by kernel_rfl
theorem gf_151 : goFn prog 151 = true := by kernel_rfl
theorem gf_152 : goFn prog 152 = true := by kernel_rfl
theorem gf_153 : goFn prog 153 = true := by kernel_rfl
theorem gf_154 : goFn prog 154 = true := by kernel_rfl
theorem gf_155 : goFn prog 155 = true := by kernel_rfl
theorem gf_156 : goFn prog 156 = true := by kernel_rfl
theorem gf_157 : goFn prog 157 = true := by kernel_rfl
theorem gf_158 : goFn prog 158 = true := by kernel_rfl
theorem gf_159 : goFn prog 159 = true := by kernel_rfl
theorem gf_160 : goFn prog 160 = true := by kernel_rfl
theorem gf_161 : goFn prog 161 = true := by kernel_rfl
theorem gf_162 : goFn prog 162 = true := by kernel_rfl
theorem gf_163 : goFn prog 163 = true := by kernel_rfl
theorem gf_164 : goFn prog 164 = true := by kernel_rfl
theorem gf_165 : goFn prog 165 = true := by kernel_rfl
theorem gf_166 : goFn prog 166 = true := by kernel_rfl
theorem gf_167 : goFn prog 167 = true := by kernel_rfl
theorem gf_168 : goFn prog 168 = true := by kernel_rfl
theorem gf_169 : goFn prog 169 = true := by kernel_rfl
theorem gf_170 : goFn prog 170 = true := by kernel_rfl
theorem gf_171 : goFn prog 171 = true := by kernel_rfl
theorem gf_172 : goFn prog 172 = true := by kernel_rfl
theorem gf_173 : goFn prog 173 = true := by kernel_rfl
theorem gf_174 : goFn prog 174 = true := by kernel_rfl
theorem gf_175 : goFn prog 175 = true := by kernel_rfl
theorem gf_176 : goFn prog 176 = true := by kernel_rfl
theorem gf_177 : goFn prog 177 = true := by kernel_rfl
theorem gf_178 : goFn prog 178 = true := by kernel_rfl
theorem gf_179 : goFn prog 179 = true := by kernel_rfl
theorem gf_180 : goFn prog 180 = true := by kernel_rfl
theorem gf_181 : goFn prog 181 = true := by kernel_rfl
theorem gf_182 : goFn prog 182 = true := by kernel_rfl
theorem gf_183 : goFn prog 183 = true := by kernel_rfl
theorem gf_184 : goFn prog 184 = true := by kernel_rfl
theorem gf_193 : goFn prog 193 = true := by kernel_rfl
theorem gf_194 : goFn prog 194 = true := by kernel_rfl
theorem gf_195 : goFn prog 195 = true := by kernel_rfl
theorem gf_196 : goFn prog 196 = true := by kernel_rfl
theorem gf_197 : goFn prog 197 = true := by kernel_rfl
theorem gf_198 : goFn prog 198 = true := by kernel_rfl
theorem gf_199 : goFn prog 199 = true := by kernel_rfl
theorem gf_20 : goFn prog 20 = true := by kernel_rfl
theorem gf_205 : goFn prog 205 = true := by kernel_rfl
theorem gf_206 : goFn prog 206 = true := by kernel_rfl
theorem gf_207 : goFn prog 207 = true := by kernel_rfl
theorem gf_208 : goFn prog 208 = true := by kernel_rfl
theorem gf_209 : goFn prog 209 = true := by kernel_rfl
theorem gf_21 : goFn prog 21 = true := by kernel_rfl
theorem gf_210 : goFn prog 210 = true := by kernel_rfl
theorem gf_211 : goFn prog 211 = true := by kernel_rfl
theorem gf_215 : goFn prog 215 = true := by kernel_rfl
theorem gf_216 : goFn prog 216 = true := by kernel_rfl
theorem gf_22 : goFn prog 22 = true := by kernel_rfl
theorem gf_23 : goFn prog 23 = true := by kernel_rfl
theorem gf_24 : goFn prog 24 = true := by kernel_rfl
theorem gf_25 : goFn prog 25 = true := by kernel_rfl
theorem gf_26 : goFn prog 26 = true := by kernel_rfl
theorem gf_27 : goFn prog 27 = true := by kernel_rfl
theorem gf_28 : goFn prog 28 = true := by kernel_rfl
theorem gf_29 : goFn prog 29 = true := by kernel_rfl
theorem gf_30 : goFn prog 30 = true := by kernel_rfl
theorem gf_31 : goFn prog 31 = true := by kernel_rfl
theorem gf_32 : goFn prog 32 = true := by kernel_rfl
theorem gf_33 : goFn prog 33 = true := by kernel_rfl
theorem gf_34 : goFn prog 34 = true := by kernel_rfl
theorem gf_35 : goFn prog 35 = true := by kernel_rfl
theorem gf_36 : goFn prog 36 = true := by kernel_rfl
theorem gf_37 : goFn prog 37 = true := by kernel_rfl
theorem gf_38 : goFn prog 38 = true := by kernel_rfl
theorem gf_39 : goFn prog 39 = true := by kernel_rfl
theorem gf_40 : goFn prog 40 = true := by kernel_rfl
theorem gf_41 : goFn prog 41 = true := by kernel_rfl
theorem gf_42 : goFn prog 42 = true := by kernel_rfl
theorem gf_43 : goFn prog 43 = true := by kernel_rfl
theorem gf_44 : goFn prog 44 = true := by kernel_rfl
theorem gf_48 : goFn prog 48 = true := by kernel_rfl
theorem gf_5 : goFn prog 5 = true := by kernel_rfl
theorem gf_51 : goFn prog 51 = true := by kernel_rfl
theorem gf_53 : goFn prog 53 = true := by kernel_rfl
theorem gf_54 : goFn prog 54 = true := by kernel_rfl
theorem gf_55 : goFn prog 55 = true := by kernel_rfl
theorem gf_56 : goFn prog 56 = true := by kernel_rfl
theorem gf_57 : goFn prog 57 = true := by kernel_rfl
theorem gf_58 : goFn prog 58 = true := by kernel_rfl
theorem gf_59 : goFn prog 59 = true := by kernel_rfl
theorem gf_6 : goFn prog 6 = true := by kernel_rfl
theorem gf_60 : goFn prog 60 = true := by kernel_rfl
theorem gf_61 : goFn prog 61 = true := by kernel_rfl
theorem gf_62 : goFn prog 62 = true := by kernel_rfl
theorem gf_63 : goFn prog 63 = true := by kernel_rfl
theorem gf_64 : goFn prog 64 = true := by kernel_rfl
theorem gf_65 : goFn prog 65 = true := by kernel_rfl
theorem gf_66 : goFn prog 66 = true := by kernel_rfl
theorem gf_67 : goFn prog 67 = true := by kernel_rfl
theorem gf_68 : goFn prog 68 = true := by kernel_rfl
theorem gf_69 : goFn prog 69 = true := by kernel_rfl
theorem gf_7 : goFn prog 7 = true := by kernel_rfl
theorem gf_70 : goFn prog 70 = true := by kernel_rfl
theorem gf_71 : goFn prog 71 = true := by kernel_rfl
theorem gf_72 : goFn prog 72 = true := by kernel_rfl
theorem gf_73 : goFn prog 73 = true := by kernel_rfl
theorem gf_74 : goFn prog 74 = true := by kernel_rfl
theorem gf_75 : goFn prog 75 = true := by kernel_rfl
theorem gf_76 : goFn prog 76 = true := by kernel_rfl
theorem gf_77 : goFn prog 77 = true := by kernel_rfl
theorem gf_78 : goFn prog 78 = true := by kernel_rfl
theorem gf_79 : goFn prog 79 = true := by kernel_rfl
theorem gf_8 : goFn prog 8 = true := by kernel_rfl
theorem gf_80 : goFn prog 80 = true := by kernel_rfl
theorem gf_81 : goFn prog 81 = true := by kernel_rfl
theorem gf_82 : goFn prog 82 = true := by kernel_rfl
theorem gf_83 : goFn prog 83 = true := by kernel_rfl
theorem gf_84 : goFn prog 84 = true := by kernel_rfl
theorem gf_85 : goFn prog 85 = true := by kernel_rfl
theorem gf_86 : goFn prog 86 = true := by kernel_rfl
theorem gf_87 : goFn prog 87 = true := by kernel_rfl
theorem gf_88 : goFn prog 88 = true := by kernel_rfl
theorem gf_9 : goFn prog 9 = true := by kernel_rfl
theorem gf_91 : goFn prog 91 = true := by kernel_rfl
theorem gf_93 : goFn prog 93 = true := by kernel_rfl
theorem gf_94 : goFn prog 94 = true := by kernel_rfl
theorem gf_95 : goFn prog 95 = true := by kernel_rfl
theorem gf_96 : goFn prog 96 = true := by kernel_rfl
theorem gf_97 : goFn prog 97 = true := by kernel_rfl
theorem gf_98 : goFn prog 98 = true := by kernel_rfl
theorem gf_99 : goFn prog 99 = true := by kernel_rfl
theorem in_130 : infoN prog 130 = some ([.string ByteArray.empty, .i 0, .i 0], 3, 32) := by kernel_rfl
theorem in_140 : infoN prog 140 = some ([.slice none 0 0, .slice none 0 0, .slice none 0 0, .slice none 0 0], 4, 96) := by kernel_rfl
theorem in_2 : infoN prog 2 = some ([.i 0], 1, 8) := by kernel_rfl
theorem in_207 : infoN prog 207 = some ([.i 0, .i 0], 2, 16) := by kernel_rfl
theorem in_231 : infoN prog 231 = some ([.slice none 0 0, .slice none 0 0, .slice none 0 0], 3, 72) := by kernel_rfl
theorem in_3 : infoN prog 3 = some ([.i 0], 1, 8) := by kernel_rfl
theorem in_33 : infoN prog 33 = some ([.slice none 0 0], 1, 24) := by kernel_rfl
theorem in_4 : infoN prog 4 = some ([.bool false], 1, 1) := by kernel_rfl
theorem in_5 : infoN prog 5 = some ([.int .u8 0], 1, 1) := by kernel_rfl
theorem in_71 : infoN prog 71 = some ([.i 0, .i 0, .i 0, .i 0], 4, 32) := by kernel_rfl
theorem in_74 : infoN prog 74 = some ([.i 0, .i 0, .i 0, .i 0, .slice none 0 0, .slice none 0 0], 6, 80) := by kernel_rfl
theorem in_80 : infoN prog 80 = some ([.i 0, .i 0, .i 0, .bool false], 4, 32) := by kernel_rfl
theorem in_82 : infoN prog 82 = some ([.string ByteArray.empty, .i 0, .i 0, .bool false], 4, 40) := by kernel_rfl
theorem in_86 : infoN prog 86 = some ([.string ByteArray.empty, .i 0, .slice none 0 0, .slice none 0 0, .slice none 0 0, .i 0, .i 0], 7, 112) := by kernel_rfl
theorem in_88 : infoN prog 88 = some ([.string ByteArray.empty, .i 0, .slice none 0 0], 3, 48) := by kernel_rfl
theorem in_9 : infoN prog 9 = some ([.string ByteArray.empty], 1, 16) := by kernel_rfl
theorem in_99 : infoN prog 99 = some ([.i 0, .i 0, .i 0, .bool false], 4, 32) := by kernel_rfl
theorem pl_103 : placesN prog 103 = some [(0, 5), (5, 1), (6, 1), (7, 1), (8, 1), (9, 1)] := by kernel_rfl
theorem pl_148 : placesN prog 148 = some [(0, 1), (1, 1)] := by kernel_rfl
theorem pl_207 : placesN prog 207 = some [(0, 1), (1, 1)] := by kernel_rfl
theorem pl_252 : placesN prog 252 = some [(0, 1), (1, 1)] := by kernel_rfl
theorem pl_71 : placesN prog 71 = some [(0, 1), (1, 1), (2, 1), (3, 1)] := by kernel_rfl
theorem pl_80 : placesN prog 80 = some [(0, 1), (1, 1), (2, 1), (3, 1)] := by kernel_rfl
theorem pl_99 : placesN prog 99 = some [(0, 1), (1, 1), (2, 1), (3, 1)] := by kernel_rfl
theorem zn_103 : zeroN prog 103 = some [.slice none 0 0, .slice none 0 0, .slice none 0 0, .slice none 0 0, .slice none 0 0, .slice none 0 0, .slice none 0 0, .slice none 0 0, .slice none 0 0, .slice none 0 0] := by kernel_rfl
theorem zn_130 : zeroN prog 130 = some [.string ByteArray.empty, .i 0, .i 0] := by kernel_rfl
theorem zn_140 : zeroN prog 140 = some [.slice none 0 0, .slice none 0 0, .slice none 0 0, .slice none 0 0] := by kernel_rfl
theorem zn_148 : zeroN prog 148 = some [.pointer none, .slice none 0 0] := by kernel_rfl
theorem zn_207 : zeroN prog 207 = some [.i 0, .i 0] := by kernel_rfl
theorem zn_231 : zeroN prog 231 = some [.slice none 0 0, .slice none 0 0, .slice none 0 0] := by kernel_rfl
theorem zn_252 : zeroN prog 252 = some [.i 0, .i 0] := by kernel_rfl
theorem zn_39 : zeroN prog 39 = some [.slice none 0 0] := by kernel_rfl
theorem zn_43 : zeroN prog 43 = some [.slice none 0 0, .slice none 0 0, .slice none 0 0] := by kernel_rfl
theorem zn_46 : zeroN prog 46 = some [.slice none 0 0, .slice none 0 0, .slice none 0 0, .slice none 0 0, .slice none 0 0] := by kernel_rfl
theorem zn_71 : zeroN prog 71 = some [.i 0, .i 0, .i 0, .i 0] := by kernel_rfl
theorem zn_74 : zeroN prog 74 = some [.i 0, .i 0, .i 0, .i 0, .slice none 0 0, .slice none 0 0] := by kernel_rfl
theorem zn_80 : zeroN prog 80 = some [.i 0, .i 0, .i 0, .bool false] := by kernel_rfl
theorem zn_82 : zeroN prog 82 = some [.string ByteArray.empty, .i 0, .i 0, .bool false] := by kernel_rfl
theorem zn_86 : zeroN prog 86 = some [.string ByteArray.empty, .i 0, .slice none 0 0, .slice none 0 0, .slice none 0 0, .i 0, .i 0] := by kernel_rfl
theorem zn_88 : zeroN prog 88 = some [.string ByteArray.empty, .i 0, .slice none 0 0] := by kernel_rfl
theorem zn_99 : zeroN prog 99 = some [.i 0, .i 0, .i 0, .bool false] := by kernel_rfl
def F_2z (n : Nat) (a0_s : ByteArray) (a1_cutset : ByteArray) : Option ByteArray := if a0_s.size ≤ 9223372036854775807 ∧ a1_cutset.size < 4294967281 ∧ (a1_cutset.data.toList.all fun b => decide (b.toNat < 128)) = true then some ⟨(Lib.trimS a0_s.data.toList a1_cutset.data.toList).toArray⟩ else none
theorem W_2z {n : Nat} {a0_s : ByteArray} {a1_cutset : ByteArray} {r : ByteArray} {w : World} (hF : F_2z n a0_s a1_cutset = some r) :
    Calls prog 176 [.string a0_s, .string a1_cutset].toArray w (Ret fun u w2 => u = .string r ∧ Ext w w2) := by
  unfold F_2z at hF
  split at hF
  · rename_i h
    obtain rfl := Option.some.inj hF
    refine (strings_Trim_ascii a0_s a1_cutset w h.1 h.2.1 (fun j b hb => of_decide_eq_true (List.all_eq_true.1 h.2.2 b (List.mem_of_getElem? hb)))).mono ?_
    rintro e w' ⟨rfl, hB⟩
    exact ⟨_, rfl, rfl, hB⟩
  · cases hF
def F_46 (n : Nat) (a0_s : ByteArray) (a1_c : Int) : Option Int := some (Lib.indexByte a0_s.data.toList a1_c.toNat.toUInt8)
theorem W_46 {n : Nat} {a0_s : ByteArray} {a1_c : Int} {r : Int} {w : World} (hF : F_46 n a0_s a1_c = some r) :
    Calls prog 177 [.string a0_s, .int .u8 a1_c].toArray w (Ret fun u w2 => u = .i r ∧ Ext w w2) := by
  obtain rfl := Option.some.inj hF
  refine (strings_IndexByte a0_s a1_c w).mono ?_
  rintro e w' ⟨rfl, rfl⟩
  exact ⟨_, rfl, rfl, Ext.refl _⟩
def F_0r_L1 (a0:List ByteArray) (a1:ByteArray) (k0:Int→Option Int):Nat→Int→Option Int
  | 0, _=>none
  | m + 1, i5=>(bif decide (i5 < (a0.length:Int)) then ((getI a0 i5).bind fun x6=>(bif (a1.toList == x6.toList) then (some i5) else (F_0r_L1 a0 a1 k0 m (wrap .i64 (i5 + 1))))) else (k0 i5))
def F_0r (n:Nat) (a0:List ByteArray) (a1:ByteArray):Option Int:=(F_0r_L1 a0 a1 (fun i5=>(some (-1))) n 0)
theorem W_0r {C:List ByteArray} {D:ByteArray} {r:Int} {F:Value} (hF:F_0r n C D = some r) (hH:H ≤ w.heap.size) (G:slRep cStr w (Iv 0 H) C F) :
    Calls prog 182 [F,.string D].toArray w (Ret fun u L => u = .i r∧Ext w L):=by
  refine calls_ofD func182 rfl ntmps182 ?_;have I:=Ext.refl w;unfold F_0r at hF;refine Rc 9 (Yl rfl (yle rfl underlying26 (G.oh hH I)) (Ro 4 ?_));refine WC.loopD (fun B a wl => ∃ (A:Int),Kn 19 [(0,F),(1,.string D),(7,.i ((C.length:Int))),(8,.i A)] a∧Ext w wl∧w.heap.size ≤ wl.heap.size∧F_0r_L1 C D (fun A => (some (-1))) B A = some r) n ?_ ?_
  · intro a hK;exact ⟨0,hK.sub rfl,I,Nat.le_refl _,hF⟩
  · rintro B a Q ⟨A,hK,E,O,hF⟩;revert a;change WC _ _ _ _ _ _
    cases B with
    | zero => exact nos hF
    | succ B =>
      rw [F_0r_L1.eq_2] at hF;refine Rc 6 (Wc rfl hF ?_ ?_)
      · intro hF;refine Rc 15 ?_;have ⟨R,K,hF⟩:=bsome hF;refine Ye rfl (yix rfl underlying26 cn_9 (G.oh hH E) K) ?_;rintro _ ⟨M,P,_,rfl,N,rfl,J⟩;refine Yl rfl (ylc 0 rfl ag_9 J rfl rfl) (Ro 3 (Wc rfl hF ?_ ?_))
        · intro hF;refine Rc 12 ?_;cases szt hF;exact Ne rfl rfl ⟨_,rfl,rfl,E⟩
        · intro hF;refine Rc 8 ?_;intro a hK;exact ⟨B,nr,(wrap .i64 (A + 1)),hK.sub rfl,E,(by omega),hF⟩
      · intro hF;refine Rc 11 ?_;cases szt hF;exact Ne rfl rfl ⟨_,rfl,rfl,E⟩
def F_30 (n:Nat) (a0:List ByteArray) (a1:ByteArray):Option Bool:=((F_0r n a0 a1).bind fun r3=>(some (decide (r3 ≥ 0))))
theorem W_30 {A:List ByteArray} {B:ByteArray} {r:Bool} {D:Value} (hF:F_30 n A B = some r) (hH:H ≤ w.heap.size) (E:slRep cStr w (Iv 0 H) A D) :
    Calls prog 171 [D,.string B].toArray w (Ret fun u J => u = .bool r∧Ext w J):=by
  refine calls_ofD func171 rfl ntmps171 ?_;have C:=Ext.refl w;unfold F_30 at hF;refine Rc 9 ?_;have ⟨L,G,hF⟩:=bsome hF;refine Ef rfl (eca rfl gf_182 (W_0r G (by omega) (E.oh hH C) :)) ?_;rintro _ M ⟨rfl,I⟩;have ⟨F,K⟩:=Et C I;refine Ro 5 ?_;cases szt hF;exact Ne rfl rfl ⟨_,rfl,rfl,F⟩
def F_0s_L1 (a0:List Int) (k0:Int→Int→Option Int):Nat→Int→Int→Option Int
  | 0, _, _=>none
  | m + 1, i14, i15=>(bif decide (i15 < (a0.length:Int)) then ((getI a0 i15).bind fun x16=>(F_0s_L1 a0 k0 m (min i14 x16) (wrap .i64 (i15 + 1)))) else (k0 i14 i15))
def F_0s (n:Nat) (a0:List Int):Option Int:=(bif decide ((a0.length:Int) < 1) then none else ((getI a0 0).bind fun x3=>(F_0s_L1 a0 (fun i14 i15=>(some i14)) n x3 1)))
theorem W_0s {F:List Int} {r:Int} {I:Value} (hF:F_0s n F = some r) (hH:H ≤ w.heap.size) (D:slRep (cInt .i64) w (Iv 0 H) F I) :
    Calls prog 208 [I].toArray w (Ret fun u N => u = .i r∧Ext w N):=by
  refine calls_ofD func208 rfl ntmps208 ?_;have G:=Ext.refl w;unfold F_0s at hF;refine Rc 9 (Yl rfl (yle rfl underlying33 (D.oh hH G)) (Ro 3 (Wc rfl hF ?_ ?_)))
  · intro hF;cases hF
  · intro hF;refine Rc 5 ?_;have ⟨P,M,hF⟩:=bsome hF;refine Ye rfl (yix rfl underlying33 cn_2 (D.oh hH G) M) ?_;rintro _ ⟨R,W,_,rfl,S,rfl,K⟩;refine Yl rfl (ylc 0 rfl ag_2 K rfl rfl) (Ro 10 ?_);refine WC.loopD (fun C a wl => ∃ (A:Int) (B:Int),Kn 25 [(0,I),(3,.i A),(4,.i B)] a∧Ext w wl∧w.heap.size ≤ wl.heap.size∧F_0s_L1 F (fun A B => (some A)) C A B = some r) n ?_ ?_
    · intro a hK;exact ⟨P,1,hK.sub rfl,G,Nat.le_refl _,hF⟩
    · rintro C a X ⟨A,B,hK,E,U,hF⟩;revert a;change WC _ _ _ _ _ _
      cases C with
      | zero => exact nos hF
      | succ C =>
        rw [F_0s_L1.eq_2] at hF;refine Rc 5 (Yl rfl (yle rfl underlying33 (D.oh hH E)) (Ro 3 (Wc rfl hF ?_ ?_)))
        · intro hF;refine Rc 8 ?_;have ⟨O,L,hF⟩:=bsome hF;refine Ye rfl (yix rfl underlying33 cn_2 (D.oh hH E) L) ?_;rintro _ ⟨Q,V,_,rfl,T,rfl,J⟩;refine Yl rfl (ylc 0 rfl ag_2 J rfl rfl) (Yl rfl (yld_min2 rfl rfl rfl) (Ro 10 ?_));intro a hK;exact ⟨C,nr,(min A O),(wrap .i64 (B + 1)),hK.sub rfl,E,(by omega),hF⟩
        · intro hF;refine Rc 12 ?_;cases szt hF;exact Ne rfl rfl ⟨_,rfl,rfl,E⟩
def F_21 (n:Nat) (a0:List Int):Option (List Int):=((appN (([]:List Int)) a0 8).bind fun z15=>(some z15))
theorem W_21 {B:List Int} {r:List Int} {K:Value} (hF:F_21 n B = some r) (hH:H ≤ w.heap.size) (C:slRep (cInt .i64) w (Iv 0 H) B K) :
    Calls prog 115 [K].toArray w (Ret fun u L => ∃ J,u = J∧ownR (cInt .i64) L w.heap.size (Iv 0 0) 2 r J∧Ext w L):=by
  refine calls_ofD func115 rfl ntmps115 ?_;have A:=Ext.refl w;unfold F_21 at hF;refine Rc 9 ?_
  rcases slRep.nil_or (C.oh hH A) with ⟨rfl,hnil⟩ | ⟨p_,n_,c_,rfl⟩
  · replace hF:(some (([]:List Int))) = some r:=(by simpa [hnil,appN] using hF);refine Yl rfl (yld_eqnil_t rfl underlying33 rfl rfl) (Ro 2 (WC.cond_t rfl (Rc 7 ?_)));cases szt hF;exact Ne rfl rfl ⟨_,rfl,_,rfl,ownR.nil _ _ _ _ _,A⟩
  · refine Yl rfl (yld_eqnil_f rfl underlying33 rfl rfl) (Ro 2 (WC.cond_f rfl (Rc 4 ?_)));refine Ef rfl (eff_buildSlice (c:=(cInt .i64)) (xs:=([]:List Int)) (S:=(Iv 0 0)) (uss:=[]) (out:=[]) rfl underlying33 in_2 rfl rfl (fillL_all [] rfl rfl rfl) rfl rfl rfl rfl (one_rep (uss:=[]) (show reps _ _ _ _ _ from trivial) rfl) (fun k h => by have:=h.2;omega) rfl) ?_;rintro Y a ⟨Q,I,T,W,P,O⟩;have ⟨E,U⟩:=Et A P;have D:=bd_of I;clear I;refine Ro 1 ?_;have ⟨b,M,hF⟩:=bsome hF;refine Ef rfl (eff_appendF (c:=(cInt .i64)) rfl underlying33 in_2 rfl rfl rfl rfl rfl O (by omega) (C.oh hH E) M) ?_;rintro X Z ⟨G,F⟩;have ⟨N,V⟩:=Ge E F D (by omega);have R:=Gd2 F G D (by omega) (by omega);refine Ro 4 ?_;cases szt hF;exact Ne rfl rfl ⟨_,rfl,_,rfl,ownR.base G (by omega),N⟩
def F_n_L2 (i9:Int) (k2:Int→Int→(List Int)→Option (List Int)):Nat→Int→Int→(List Int)→Option (List Int)
  | 0, _, _, _=>none
  | m + 1, i37, i38, l39=>(bif decide (i38 < ((l39.drop (i9).toNat).length:Int)) then ((getI (l39.drop (i9).toNat) i38).bind fun x41=>((getI (l39.drop (i9).toNat) (wrap .i64 (i38 - 1))).bind fun x50=>(bif (x41 != x50) then ((getI (l39.drop (i9).toNat) i38).bind fun x63=>((getI l39 i37).bind fun x72=>(F_n_L2 i9 k2 m (wrap .i64 (i37 + 1)) (wrap .i64 (i38 + 1)) ((l39.set (i37).toNat x63))))) else (F_n_L2 i9 k2 m i37 (wrap .i64 (i38 + 1)) l39)))) else (k2 i37 i38 l39))
def F_n_L1 (n:Nat) (a0:List Int) (k0:Int→Option (List Int)):Nat→Int→Option (List Int)
  | 0, _=>none
  | m + 1, i9=>(bif decide (i9 < (a0.length:Int)) then ((getI a0 i9).bind fun x11=>((getI a0 (wrap .i64 (i9 - 1))).bind fun x18=>(bif (x11 == x18) then ((subL a0 i9 (a0.length:Int)).bind fun z29=>(F_n_L2 i9 (fun i37 i38 l39=>((subL l39 i37 (l39.length:Int)).bind fun z41=>((subL ((l39.take (i37).toNat ++ List.replicate (l39.length - (i37).toNat) 0)) 0 i37).bind fun z52=>(some z52)))) n i9 1 a0)) else (F_n_L1 n a0 k0 m (wrap .i64 (i9 + 1)))))) else (k0 i9))
def F_n (n:Nat) (a0:List Int):Option (List Int):=(bif decide ((a0.length:Int) < 2) then (some a0) else (F_n_L1 n a0 (fun i9=>(some a0)) n 1))
theorem W_n {G:List Int} {r:List Int} {B:Value} {B3:Nat} (hF:F_n n G = some r) (K:ownR (cInt .i64) w B3 (Iv 0 0) 2 G B) (d0:B3 ≤ w.heap.size) :
    Calls prog 38 [B].toArray w (Ret fun u d => ∃ N,u = N∧ownR (cInt .i64) d B3 (Iv 0 0) 2 r N∧Gr w B N∧But (pO B) w d):=by
  refine calls_ofD func38 rfl ntmps38 ?_;have P:But (pO B) w w:=But.refl _ w;have M:=ownR.blk K;unfold F_n at hF;refine Rc 9 (Yl rfl (ylo rfl underlying33 K) (Ro 3 (Wc rfl hF ?_ ?_)))
  · intro hF;refine Rc 8 ?_;cases szt hF;exact Ne rfl rfl ⟨_,rfl,_,rfl,K,(Gr.refl _ _),P⟩
  · intro hF;refine Rc 9 ?_;refine WC.loopD (fun J a wl => ∃ (F:Int),Kn 61 [(0,B),(3,.i F)] a∧But (pO B) w wl∧w.heap.size ≤ wl.heap.size∧ownR (cInt .i64) wl (B3) (Iv 0 0) 2 G B∧F_n_L1 n G (fun F => (some G)) J F = some r) n ?_ ?_
    · intro a hK;exact ⟨1,hK.sub rfl,P,Nat.le_refl _,K,hF⟩
    · rintro J a B1 ⟨F,hK,T,j0,D,hF⟩;revert a;change WC _ _ _ _ _ _
      cases J with
      | zero => exact nos hF
      | succ J =>
        rw [F_n_L1.eq_2] at hF;refine Rc 5 (Yl rfl (ylo rfl underlying33 D) (Ro 3 (Wc rfl hF ?_ ?_)))
        · intro hF;refine Rc 5 (WC.quiet Tryz.hm (by kernel_rfl) (Qr 2 ?_));have ⟨D1,E0,hF⟩:=bsome hF;refine Qe rfl (yio rfl underlying33 cn_2 D E0) ?_;rintro _ ⟨U0,s0,rfl,Y0,s,e⟩;obtain rfl:=s;refine Qy rfl (ylc 0 rfl ag_2 e rfl rfl) (Qr 3 ?_);have ⟨E1,F0,hF⟩:=bsome hF;refine Qe rfl (yio rfl underlying33 cn_2 D F0) ?_;rintro _ ⟨V0,t0,rfl,Z0,t,f⟩;obtain rfl:=t;refine Qy rfl (ylc 0 rfl ag_2 f rfl rfl) (Qr 1 ?_);refine QL.done fun O0 X => ?_;have ⟨Q,k0⟩:=Ebt T X;have D:=D.ext X;refine Re 1 (Wc rfl hF ?_ ?_)
          · intro hF;refine Rc 4 ?_;have ⟨I1,K0,hF⟩:=bsome hF;refine Ye rfl (ye_sliceT (c:=(cInt .i64)) rfl underlying33 cn_2 rfl rfl (ownR.slb D M) K0 (ownQ.spot (ownQ.of D))) ?_;rintro N0 ⟨e0,g0,L⟩;refine Ro 10 ?_;refine WC.loopD (fun I a wl => ∃ (C:Int) (H:Int) (E:List Int),Kn 61 [(0,B),(3,.i C),(4,N0),(5,.i H)] a∧But (pO B) w wl∧O0.heap.size ≤ wl.heap.size∧ownR (cInt .i64) wl (B3) (Iv 0 0) 2 E B∧F_n_L2 F (fun C H E => (Option.bind (subL E C (E.length:Int)) fun J1 => (Option.bind (subL ((E.take (C).toNat ++ List.replicate (E.length - (C).toNat) 0)) 0 C) fun Q0 => (some Q0)))) I C H E = some r) n ?_ ?_
            · intro a hK;exact ⟨F,1,G,hK.sub rfl,Q,Nat.le_refl _,D,hF⟩
            · rintro I a z0 ⟨C,H,E,hK,R,l0,A,hF⟩;revert a;change WC _ _ _ _ _ _
              cases I with
              | zero => exact nos hF
              | succ I =>
                rw [F_n_L2.eq_2] at hF;refine Rc 5 (Yl rfl (yl_tail rfl underlying33 L A) (Ro 3 (Wc rfl hF ?_ ?_)))
                · intro hF;refine Rc 5 (WC.quiet Tryz.hm (by kernel_rfl) (Qr 2 ?_));have ⟨F1,G0,hF⟩:=bsome hF;refine Qe rfl (yi_tail rfl underlying33 cn_2 L A G0) ?_;rintro _ ⟨R0,p0,u0,rfl,a0,v,i⟩;obtain rfl:=v;refine Qy rfl (ylc 0 rfl ag_2 i rfl rfl) (Qr 3 ?_);have ⟨G1,H0,hF⟩:=bsome hF;refine Qe rfl (yi_tail rfl underlying33 cn_2 L A H0) ?_;rintro _ ⟨S0,q0,v0,rfl,b0,x,j⟩;obtain rfl:=x;refine Qy rfl (ylc 0 rfl ag_2 j rfl rfl) (Qr 1 ?_);refine QL.done fun A1 Y => ?_;have ⟨S,m0⟩:=Ebt R Y;have A:=A.ext Y;refine Re 1 (Wc rfl hF ?_ ?_)
                  · intro hF;refine Rc 6 ?_;have ⟨O,I0,hF⟩:=bsome hF;refine Ye rfl (yi_tail rfl underlying33 cn_2 L A I0) ?_;rintro _ ⟨T0,r0,w0,rfl,c0,y,l⟩;obtain rfl:=y;refine Yl rfl (ylc 0 rfl ag_2 l rfl rfl) ?_;have ⟨H1,b,hF⟩:=bsome hF;refine Ye rfl (yio rfl underlying33 cn_2 A b) ?_;rintro _ ⟨W0,x0,rfl,U,V,m⟩;have z:=V;obtain rfl:=V;refine Ef rfl (eff_store_own (c:=(cInt .i64)) (us':=[.i O]) (y':=O) 0 _ rfl rfl rfl A U b rfl cn_2 rfl z m rfl rfl rfl (fun k h => absurd h.2 (Nat.not_lt_zero k))) ?_;rintro _ C1 ⟨D0,B0⟩;have ⟨o,n0⟩:=Ebu S D0 (Or.inl U);refine Ro 15 ?_;intro a hK;exact ⟨I,nr,(wrap .i64 (C + 1)),(wrap .i64 (H + 1)),((E.set (C).toNat O)),hK.sub rfl,o,(by omega),B0,hF⟩
                  · intro hF;refine Rc 9 ?_;intro a hK;exact ⟨I,nr,C,(wrap .i64 (H + 1)),E,hK.sub rfl,S,(by omega),A,hF⟩
                · intro hF;refine Rc 9 ?_;have ⟨K1,L0,hF⟩:=bsome hF;refine Ye rfl (ye_sliceT (c:=(cInt .i64)) rfl underlying33 cn_2 rfl rfl (ownR.slb A M) L0 (ownQ.spot (ownQ.of A))) ?_;rintro y0 ⟨f0,h0,q⟩;refine Ef rfl (eff_clear_tail (c:=(cInt .i64)) (yz:=0) rfl underlying33 in_2 rfl q A rfl rfl rfl rfl) ?_;rintro _ P0 ⟨Z,C0⟩;have p:But (pO B) w P0:=But.but R Z (all_pO (fun g hg => (Or.inl hg)));have o0:=(Z).size;refine Ro 6 ?_;have ⟨L1,J0,hF⟩:=bsome hF;refine Ye rfl (ye_cut (c:=(cInt .i64)) rfl underlying33 cn_2 rfl rfl C0 J0) ?_;rintro M0 ⟨W,i0,A0⟩;have X0:Bd M0 (B3) (w.heap.size):=fun g hg => M g (by rwa [W,cutV_own] at hg);refine Ro 9 ?_;cases szt hF;exact Ne rfl rfl ⟨_,rfl,_,rfl,A0,(by rw [W];exact Gr.cut (Gr.refl _ _)),p⟩
          · intro hF;refine Rc 9 ?_;intro a hK;exact ⟨J,nr,(wrap .i64 (F + 1)),hK.sub rfl,Q,(by omega),D,hF⟩
        · intro hF;refine Rc 12 ?_;cases szt hF;exact Ne rfl rfl ⟨_,rfl,_,rfl,D,(Gr.refl _ _),T⟩
end Go.Proofs.YtpfgoednlfjebaaGreatDoor
