/-
  Closed facts about the program's tables.
  Conditions: none.
-/
import Derived.Test.YtobihkjhlopggaaGreatDoorProg
import Derived.Test.YtobihkjhlopggaaGreatDoorTypes
set_option maxRecDepth 20000
namespace Go.Sy
open Go Go.RowKit Go.Proofs
abbrev Cy (f : Nat) (vs : List Value) (w : World) (R : Ending → World → Prop) : Prop := Calls Tryz.prog f vs.toArray w R
theorem mixed : Tryz.prog.follows .mixedOrders = true := by kernel_rfl
theorem s_26 : sliceTy Tryz.prog 26 = some (3, 1, 8) := by kernel_rfl
theorem y_3 : zeroTy Tryz.prog 3 = some (.int .i64 0) := by kernel_rfl
theorem o_3 : oneTy Tryz.prog 3 = true := by kernel_rfl
theorem z_3 : sizeTy Tryz.prog 3 = some 1 := by kernel_rfl
theorem us_9 : Tryz.prog.underlying 9 = some .string := by kernel_rfl
theorem ui_3 : Tryz.prog.underlying 3 = some (.int .i64) := by kernel_rfl
theorem u8_5 : Tryz.prog.underlying 5 = some (.int .u8) := by kernel_rfl
theorem b_141 : hasBody Tryz.prog 141 = true := by kernel_rfl
theorem b_199 : hasBody Tryz.prog 199 = true := by kernel_rfl
theorem b_181 : hasBody Tryz.prog 181 = true := by kernel_rfl
theorem f_124_0 : fieldOff Tryz.prog 124 0 = some 0 := by kernel_rfl
theorem o_9 : oneTy Tryz.prog 9 = true := by kernel_rfl
theorem b_185 : hasBody Tryz.prog 185 = true := by kernel_rfl
theorem f_124_1 : fieldOff Tryz.prog 124 1 = some 1 := by kernel_rfl
theorem o_105 : oneTy Tryz.prog 105 = true := by kernel_rfl
theorem s_105 : sliceTy Tryz.prog 105 = some (9, 1, 16) := by kernel_rfl
theorem b_205 : hasBody Tryz.prog 205 = true := by kernel_rfl
theorem f_107_0 : fieldOff Tryz.prog 107 0 = some 0 := by kernel_rfl
theorem f_107_1 : fieldOff Tryz.prog 107 1 = some 1 := by kernel_rfl
theorem b_175 : hasBody Tryz.prog 175 = true := by kernel_rfl
theorem y_9 : zeroTy Tryz.prog 9 = some (.string ⟨#[]⟩) := by kernel_rfl
theorem z_9 : sizeTy Tryz.prog 9 = some 1 := by kernel_rfl
theorem y_124 : zeroTy Tryz.prog 124 = some (.agg #[(.string ⟨#[]⟩), (.slice none 0 0)]) := by kernel_rfl
theorem b_184 : hasBody Tryz.prog 184 = true := by kernel_rfl
theorem z_105 : sizeTy Tryz.prog 105 = some 1 := by kernel_rfl
theorem a_124 : aggTy Tryz.prog 124 = some 2 := by kernel_rfl
theorem z_124 : sizeTy Tryz.prog 124 = some 2 := by kernel_rfl
theorem b_202 : hasBody Tryz.prog 202 = true := by kernel_rfl
theorem f_222_0 : fieldOff Tryz.prog 222 0 = some 0 := by kernel_rfl
theorem f_222_1 : fieldOff Tryz.prog 222 1 = some 1 := by kernel_rfl
theorem y_188 : zeroTy Tryz.prog 188 = some (.agg #[(.string ⟨#[]⟩), (.slice none 0 0)]) := by kernel_rfl
theorem f_188_0 : fieldOff Tryz.prog 188 0 = some 0 := by kernel_rfl
theorem f_188_1 : fieldOff Tryz.prog 188 1 = some 1 := by kernel_rfl
theorem a_188 : aggTy Tryz.prog 188 = some 2 := by kernel_rfl
theorem z_188 : sizeTy Tryz.prog 188 = some 2 := by kernel_rfl
theorem f_224_1 : fieldOff Tryz.prog 224 1 = some 1 := by kernel_rfl
theorem a_222 : aggTy Tryz.prog 222 = some 2 := by kernel_rfl
theorem b_220 : hasBody Tryz.prog 220 = true := by kernel_rfl
theorem f_224_2 : fieldOff Tryz.prog 224 2 = some 3 := by kernel_rfl
theorem f_224_3 : fieldOff Tryz.prog 224 3 = some 4 := by kernel_rfl
theorem y_190 : zeroTy Tryz.prog 190 = some (.agg #[(.int .i64 0), (.string ⟨#[]⟩), (.slice none 0 0), (.string ⟨#[]⟩), (.string ⟨#[]⟩)]) := by kernel_rfl
theorem f_224_0 : fieldOff Tryz.prog 224 0 = some 0 := by kernel_rfl
theorem f_190_0 : fieldOff Tryz.prog 190 0 = some 0 := by kernel_rfl
theorem b_232 : hasBody Tryz.prog 232 = true := by kernel_rfl
theorem f_190_1 : fieldOff Tryz.prog 190 1 = some 1 := by kernel_rfl
theorem f_190_2 : fieldOff Tryz.prog 190 2 = some 3 := by kernel_rfl
theorem f_190_3 : fieldOff Tryz.prog 190 3 = some 4 := by kernel_rfl
theorem a_190 : aggTy Tryz.prog 190 = some 5 := by kernel_rfl
theorem z_190 : sizeTy Tryz.prog 190 = some 5 := by kernel_rfl
theorem b_243 : hasBody Tryz.prog 243 = true := by kernel_rfl
theorem f_227_1 : fieldOff Tryz.prog 227 1 = some 1 := by kernel_rfl
theorem y_192 : zeroTy Tryz.prog 192 = some (.agg #[(.int .i64 0), (.string ⟨#[]⟩), (.slice none 0 0)]) := by kernel_rfl
theorem f_227_0 : fieldOff Tryz.prog 227 0 = some 0 := by kernel_rfl
theorem f_192_0 : fieldOff Tryz.prog 192 0 = some 0 := by kernel_rfl
theorem f_192_1 : fieldOff Tryz.prog 192 1 = some 1 := by kernel_rfl
theorem a_192 : aggTy Tryz.prog 192 = some 3 := by kernel_rfl
theorem z_192 : sizeTy Tryz.prog 192 = some 3 := by kernel_rfl
theorem s_100 : sliceTy Tryz.prog 100 = some (224, 5, 80) := by kernel_rfl
theorem a_224 : aggTy Tryz.prog 224 = some 5 := by kernel_rfl
theorem b_173 : hasBody Tryz.prog 173 = true := by kernel_rfl
theorem s_119 : sliceTy Tryz.prog 119 = some (190, 5, 80) := by kernel_rfl
theorem b_182 : hasBody Tryz.prog 182 = true := by kernel_rfl
theorem b_200 : hasBody Tryz.prog 200 = true := by kernel_rfl
theorem s_101 : sliceTy Tryz.prog 101 = some (227, 3, 48) := by kernel_rfl
theorem a_227 : aggTy Tryz.prog 227 = some 3 := by kernel_rfl
theorem b_174 : hasBody Tryz.prog 174 = true := by kernel_rfl
theorem s_120 : sliceTy Tryz.prog 120 = some (192, 3, 48) := by kernel_rfl
theorem b_183 : hasBody Tryz.prog 183 = true := by kernel_rfl
theorem b_201 : hasBody Tryz.prog 201 = true := by kernel_rfl
theorem f_103_0 : fieldOff Tryz.prog 103 0 = some 0 := by kernel_rfl
theorem f_103_2 : fieldOff Tryz.prog 103 2 = some 2 := by kernel_rfl
theorem o_100 : oneTy Tryz.prog 100 = true := by kernel_rfl
theorem b_113 : hasBody Tryz.prog 113 = true := by kernel_rfl
theorem f_103_3 : fieldOff Tryz.prog 103 3 = some 3 := by kernel_rfl
theorem o_101 : oneTy Tryz.prog 101 = true := by kernel_rfl
theorem b_114 : hasBody Tryz.prog 114 = true := by kernel_rfl
theorem y_122 : zeroTy Tryz.prog 122 = some (.agg #[(.string ⟨#[]⟩), (.int .i64 0), (.slice none 0 0), (.slice none 0 0)]) := by kernel_rfl
theorem f_122_0 : fieldOff Tryz.prog 122 0 = some 0 := by kernel_rfl
theorem f_103_1 : fieldOff Tryz.prog 103 1 = some 1 := by kernel_rfl
theorem f_122_1 : fieldOff Tryz.prog 122 1 = some 1 := by kernel_rfl
theorem b_125 : hasBody Tryz.prog 125 = true := by kernel_rfl
theorem f_122_2 : fieldOff Tryz.prog 122 2 = some 2 := by kernel_rfl
theorem z_119 : sizeTy Tryz.prog 119 = some 1 := by kernel_rfl
theorem b_126 : hasBody Tryz.prog 126 = true := by kernel_rfl
theorem f_122_3 : fieldOff Tryz.prog 122 3 = some 3 := by kernel_rfl
theorem z_120 : sizeTy Tryz.prog 120 = some 1 := by kernel_rfl
theorem a_122 : aggTy Tryz.prog 122 = some 4 := by kernel_rfl
theorem z_122 : sizeTy Tryz.prog 122 = some 4 := by kernel_rfl
theorem o_119 : oneTy Tryz.prog 119 = true := by kernel_rfl
theorem b_137 : hasBody Tryz.prog 137 = true := by kernel_rfl
theorem o_120 : oneTy Tryz.prog 120 = true := by kernel_rfl
theorem b_138 : hasBody Tryz.prog 138 = true := by kernel_rfl
theorem f_109_0 : fieldOff Tryz.prog 109 0 = some 0 := by kernel_rfl
theorem a_107 : aggTy Tryz.prog 107 = some 2 := by kernel_rfl
theorem b_115 : hasBody Tryz.prog 115 = true := by kernel_rfl
theorem y_126 : zeroTy Tryz.prog 126 = some (.agg #[(.string ⟨#[]⟩), (.slice none 0 0), (.int .i64 0)]) := by kernel_rfl
theorem b_127 : hasBody Tryz.prog 127 = true := by kernel_rfl
theorem f_126_0 : fieldOff Tryz.prog 126 0 = some 0 := by kernel_rfl
theorem f_109_1 : fieldOff Tryz.prog 109 1 = some 2 := by kernel_rfl
theorem f_126_1 : fieldOff Tryz.prog 126 1 = some 2 := by kernel_rfl
theorem a_126 : aggTy Tryz.prog 126 = some 3 := by kernel_rfl
theorem z_126 : sizeTy Tryz.prog 126 = some 3 := by kernel_rfl
theorem b_139 : hasBody Tryz.prog 139 = true := by kernel_rfl
theorem f_112_0 : fieldOff Tryz.prog 112 0 = some 0 := by kernel_rfl
theorem f_112_1 : fieldOff Tryz.prog 112 1 = some 1 := by kernel_rfl
theorem o_26 : oneTy Tryz.prog 26 = true := by kernel_rfl
theorem b_43 : hasBody Tryz.prog 43 = true := by kernel_rfl
theorem y_128 : zeroTy Tryz.prog 128 = some (.agg #[(.string ⟨#[]⟩), (.slice none 0 0)]) := by kernel_rfl
theorem f_128_0 : fieldOff Tryz.prog 128 0 = some 0 := by kernel_rfl
theorem b_49 : hasBody Tryz.prog 49 = true := by kernel_rfl
theorem f_128_1 : fieldOff Tryz.prog 128 1 = some 1 := by kernel_rfl
theorem z_26 : sizeTy Tryz.prog 26 = some 1 := by kernel_rfl
theorem a_128 : aggTy Tryz.prog 128 = some 2 := by kernel_rfl
theorem z_128 : sizeTy Tryz.prog 128 = some 2 := by kernel_rfl
theorem b_54 : hasBody Tryz.prog 54 = true := by kernel_rfl
theorem s_48 : sliceTy Tryz.prog 48 = some (103, 4, 72) := by kernel_rfl
theorem a_103 : aggTy Tryz.prog 103 = some 4 := by kernel_rfl
theorem b_66 : hasBody Tryz.prog 66 = true := by kernel_rfl
theorem s_55 : sliceTy Tryz.prog 55 = some (122, 4, 72) := by kernel_rfl
theorem b_73 : hasBody Tryz.prog 73 = true := by kernel_rfl
theorem b_82 : hasBody Tryz.prog 82 = true := by kernel_rfl
theorem s_49 : sliceTy Tryz.prog 49 = some (109, 3, 48) := by kernel_rfl
theorem a_109 : aggTy Tryz.prog 109 = some 3 := by kernel_rfl
theorem b_67 : hasBody Tryz.prog 67 = true := by kernel_rfl
theorem s_57 : sliceTy Tryz.prog 57 = some (126, 3, 48) := by kernel_rfl
theorem b_74 : hasBody Tryz.prog 74 = true := by kernel_rfl
theorem b_83 : hasBody Tryz.prog 83 = true := by kernel_rfl
theorem s_50 : sliceTy Tryz.prog 50 = some (112, 2, 40) := by kernel_rfl
theorem a_112 : aggTy Tryz.prog 112 = some 2 := by kernel_rfl
theorem b_68 : hasBody Tryz.prog 68 = true := by kernel_rfl
theorem s_59 : sliceTy Tryz.prog 59 = some (128, 2, 40) := by kernel_rfl
theorem b_75 : hasBody Tryz.prog 75 = true := by kernel_rfl
theorem b_84 : hasBody Tryz.prog 84 = true := by kernel_rfl
theorem b_238 : hasBody Tryz.prog 238 = true := by kernel_rfl
theorem b_257 : hasBody Tryz.prog 257 = true := by kernel_rfl
theorem b_234 : hasBody Tryz.prog 234 = true := by kernel_rfl
theorem b_256 : hasBody Tryz.prog 256 = true := by kernel_rfl
theorem b_233 : hasBody Tryz.prog 233 = true := by kernel_rfl
theorem b_235 : hasBody Tryz.prog 235 = true := by kernel_rfl
theorem b_255 : hasBody Tryz.prog 255 = true := by kernel_rfl
theorem b_222 : hasBody Tryz.prog 222 = true := by kernel_rfl
theorem b_239 : hasBody Tryz.prog 239 = true := by kernel_rfl
theorem b_254 : hasBody Tryz.prog 254 = true := by kernel_rfl
theorem b_196 : hasBody Tryz.prog 196 = true := by kernel_rfl
theorem b_260 : hasBody Tryz.prog 260 = true := by kernel_rfl
theorem b_190 : hasBody Tryz.prog 190 = true := by kernel_rfl
theorem b_192 : hasBody Tryz.prog 192 = true := by kernel_rfl
theorem b_228 : hasBody Tryz.prog 228 = true := by kernel_rfl
theorem b_236 : hasBody Tryz.prog 236 = true := by kernel_rfl
theorem b_191 : hasBody Tryz.prog 191 = true := by kernel_rfl
theorem b_223 : hasBody Tryz.prog 223 = true := by kernel_rfl
theorem b_224 : hasBody Tryz.prog 224 = true := by kernel_rfl
theorem b_188 : hasBody Tryz.prog 188 = true := by kernel_rfl
theorem b_237 : hasBody Tryz.prog 237 = true := by kernel_rfl
theorem b_186 : hasBody Tryz.prog 186 = true := by kernel_rfl
theorem b_187 : hasBody Tryz.prog 187 = true := by kernel_rfl
theorem b_189 : hasBody Tryz.prog 189 = true := by kernel_rfl
theorem b_193 : hasBody Tryz.prog 193 = true := by kernel_rfl
theorem b_221 : hasBody Tryz.prog 221 = true := by kernel_rfl
theorem b_225 : hasBody Tryz.prog 225 = true := by kernel_rfl
theorem b_226 : hasBody Tryz.prog 226 = true := by kernel_rfl
theorem b_227 : hasBody Tryz.prog 227 = true := by kernel_rfl
theorem b_229 : hasBody Tryz.prog 229 = true := by kernel_rfl
theorem b_128 : hasBody Tryz.prog 128 = true := by kernel_rfl
theorem b_129 : hasBody Tryz.prog 129 = true := by kernel_rfl
theorem b_176 : hasBody Tryz.prog 176 = true := by kernel_rfl
theorem b_119 : hasBody Tryz.prog 119 = true := by kernel_rfl
theorem s_166 : sliceTy Tryz.prog 166 = some (5, 1, 1) := by kernel_rfl
theorem y_5 : zeroTy Tryz.prog 5 = some (.int .u8 0) := by kernel_rfl
theorem usl_166 : Tryz.prog.underlying 166 = some (.slice 5) := by kernel_rfl
theorem b_59 : hasBody Tryz.prog 59 = true := by kernel_rfl
theorem b_87 : hasBody Tryz.prog 87 = true := by kernel_rfl
theorem b_85 : hasBody Tryz.prog 85 = true := by kernel_rfl
theorem b_86 : hasBody Tryz.prog 86 = true := by kernel_rfl
theorem b_62 : hasBody Tryz.prog 62 = true := by kernel_rfl
theorem b_242 : hasBody Tryz.prog 242 = true := by kernel_rfl
theorem b_259 : hasBody Tryz.prog 259 = true := by kernel_rfl
theorem b_269 : hasBody Tryz.prog 269 = true := by kernel_rfl
theorem b_244 : hasBody Tryz.prog 244 = true := by kernel_rfl
theorem b_251 : hasBody Tryz.prog 251 = true := by kernel_rfl
theorem b_252 : hasBody Tryz.prog 252 = true := by kernel_rfl
theorem b_218 : hasBody Tryz.prog 218 = true := by kernel_rfl
theorem b_50 : hasBody Tryz.prog 50 = true := by kernel_rfl
theorem b_155 : hasBody Tryz.prog 155 = true := by kernel_rfl
theorem b_206 : hasBody Tryz.prog 206 = true := by kernel_rfl
theorem b_150 : hasBody Tryz.prog 150 = true := by kernel_rfl
theorem b_156 : hasBody Tryz.prog 156 = true := by kernel_rfl
theorem b_151 : hasBody Tryz.prog 151 = true := by kernel_rfl
theorem s_31 : sliceTy Tryz.prog 31 = some (124, 2, 40) := by kernel_rfl
theorem b_194 : hasBody Tryz.prog 194 = true := by kernel_rfl
theorem b_102 : hasBody Tryz.prog 102 = true := by kernel_rfl
theorem b_204 : hasBody Tryz.prog 204 = true := by kernel_rfl
theorem b_96 : hasBody Tryz.prog 96 = true := by kernel_rfl
theorem pl_124 : placeTy Tryz.prog 124 = some ([(0, 1), (1, 1)], [(.string ⟨#[]⟩), (.slice none 0 0)]) := by kernel_rfl
theorem b_178 : hasBody Tryz.prog 178 = true := by kernel_rfl
theorem b_132 : hasBody Tryz.prog 132 = true := by kernel_rfl
theorem b_118 : hasBody Tryz.prog 118 = true := by kernel_rfl
theorem um_182 : Tryz.prog.underlying 182 = some (.map 3 4) := by kernel_rfl
theorem y_4 : zeroTy Tryz.prog 4 = some (.bool false) := by kernel_rfl
theorem b_79 : hasBody Tryz.prog 79 = true := by kernel_rfl
theorem b_130 : hasBody Tryz.prog 130 = true := by kernel_rfl
theorem b_70 : hasBody Tryz.prog 70 = true := by kernel_rfl
theorem b_180 : hasBody Tryz.prog 180 = true := by kernel_rfl
theorem f_168_0 : fieldOff Tryz.prog 168 0 = some 0 := by kernel_rfl
theorem f_168_1 : fieldOff Tryz.prog 168 1 = some 1 := by kernel_rfl
theorem s_32 : sliceTy Tryz.prog 32 = some (168, 2, 32) := by kernel_rfl
theorem a_168 : aggTy Tryz.prog 168 = some 2 := by kernel_rfl
theorem b_157 : hasBody Tryz.prog 157 = true := by kernel_rfl
theorem f_34_0 : fieldOff Tryz.prog 34 0 = some 0 := by kernel_rfl
theorem f_34_1 : fieldOff Tryz.prog 34 1 = some 1 := by kernel_rfl
theorem o_31 : oneTy Tryz.prog 31 = true := by kernel_rfl
theorem b_103 : hasBody Tryz.prog 103 = true := by kernel_rfl
theorem f_34_2 : fieldOff Tryz.prog 34 2 = some 2 := by kernel_rfl
theorem o_32 : oneTy Tryz.prog 32 = true := by kernel_rfl
theorem b_104 : hasBody Tryz.prog 104 = true := by kernel_rfl
theorem f_36_0 : fieldOff Tryz.prog 36 0 = some 0 := by kernel_rfl
theorem a_34 : aggTy Tryz.prog 34 = some 3 := by kernel_rfl
theorem b_53 : hasBody Tryz.prog 53 = true := by kernel_rfl
theorem f_36_1 : fieldOff Tryz.prog 36 1 = some 3 := by kernel_rfl
theorem f_36_2 : fieldOff Tryz.prog 36 2 = some 4 := by kernel_rfl
theorem f_36_3 : fieldOff Tryz.prog 36 3 = some 5 := by kernel_rfl
theorem f_36_4 : fieldOff Tryz.prog 36 4 = some 6 := by kernel_rfl
theorem s_42 : sliceTy Tryz.prog 42 = some (36, 7, 112) := by kernel_rfl
theorem a_36 : aggTy Tryz.prog 36 = some 7 := by kernel_rfl
theorem b_12 : hasBody Tryz.prog 12 = true := by kernel_rfl
theorem b_112 : hasBody Tryz.prog 112 = true := by kernel_rfl
theorem uu_208 : Tryz.prog.underlying 208 = some (.int .u64) := by kernel_rfl
theorem b_153 : hasBody Tryz.prog 153 = true := by kernel_rfl
theorem b_209 : hasBody Tryz.prog 209 = true := by kernel_rfl
theorem b_154 : hasBody Tryz.prog 154 = true := by kernel_rfl
theorem s_151 : sliceTy Tryz.prog 151 = some (3, 1, 8) := by kernel_rfl
theorem f_212_0 : fieldOff Tryz.prog 212 0 = some 0 := by kernel_rfl
theorem o_149 : oneTy Tryz.prog 149 = true := by kernel_rfl
theorem b_338 : hasBody Tryz.prog 338 = true := by kernel_rfl
theorem pl_212 : placeTy Tryz.prog 212 = some ([(0, 1)], [.nilIface]) := by kernel_rfl
theorem up_210 : Tryz.prog.underlying 210 = some (.pointer 212) := by kernel_rfl
theorem b_99 : hasBody Tryz.prog 99 = true := by kernel_rfl
theorem b_101 : hasBody Tryz.prog 101 = true := by kernel_rfl
theorem b_100 : hasBody Tryz.prog 100 = true := by kernel_rfl
theorem y_168 : zeroTy Tryz.prog 168 = some (.agg #[(.string ⟨#[]⟩), (.string ⟨#[]⟩)]) := by kernel_rfl
theorem y_34 : zeroTy Tryz.prog 34 = some (.agg #[(.string ⟨#[]⟩), (.slice none 0 0), (.slice none 0 0)]) := by kernel_rfl
theorem b_160 : hasBody Tryz.prog 160 = true := by kernel_rfl
theorem b_161 : hasBody Tryz.prog 161 = true := by kernel_rfl
theorem pl_34 : placeTy Tryz.prog 34 = some ([(0, 1), (1, 1), (2, 1)], [(.string ⟨#[]⟩), (.slice none 0 0), (.slice none 0 0)]) := by kernel_rfl
theorem z_34 : sizeTy Tryz.prog 34 = some 3 := by kernel_rfl
theorem b_158 : hasBody Tryz.prog 158 = true := by kernel_rfl
theorem b_159 : hasBody Tryz.prog 159 = true := by kernel_rfl
theorem b_197 : hasBody Tryz.prog 197 = true := by kernel_rfl
theorem b_231 : hasBody Tryz.prog 231 = true := by kernel_rfl
theorem b_198 : hasBody Tryz.prog 198 = true := by kernel_rfl
theorem b_179 : hasBody Tryz.prog 179 = true := by kernel_rfl
theorem y_36 : zeroTy Tryz.prog 36 = some (.agg #[(.string ⟨#[]⟩), (.slice none 0 0), (.slice none 0 0), (.int .i64 0), (.slice none 0 0), (.int .i64 0), (.int .i64 0)]) := by kernel_rfl
theorem z_36 : sizeTy Tryz.prog 36 = some 7 := by kernel_rfl
theorem b_133 : hasBody Tryz.prog 133 = true := by kernel_rfl
theorem b_107 : hasBody Tryz.prog 107 = true := by kernel_rfl
theorem b_134 : hasBody Tryz.prog 134 = true := by kernel_rfl
theorem b_135 : hasBody Tryz.prog 135 = true := by kernel_rfl
theorem pl_36 : placeTy Tryz.prog 36 = some ([(0, 3), (3, 1), (4, 1), (5, 1), (6, 1)], [(.string ⟨#[]⟩), (.slice none 0 0), (.slice none 0 0), (iv 0), (.slice none 0 0), (iv 0), (iv 0)]) := by kernel_rfl
theorem b_120 : hasBody Tryz.prog 120 = true := by kernel_rfl
theorem b_116 : hasBody Tryz.prog 116 = true := by kernel_rfl
theorem b_121 : hasBody Tryz.prog 121 = true := by kernel_rfl
theorem b_122 : hasBody Tryz.prog 122 = true := by kernel_rfl
theorem b_105 : hasBody Tryz.prog 105 = true := by kernel_rfl
theorem b_123 : hasBody Tryz.prog 123 = true := by kernel_rfl
theorem z_168 : sizeTy Tryz.prog 168 = some 2 := by kernel_rfl
theorem b_262 : hasBody Tryz.prog 262 = true := by kernel_rfl
theorem b_275 : hasBody Tryz.prog 275 = true := by kernel_rfl
theorem b_282 : hasBody Tryz.prog 282 = true := by kernel_rfl
theorem b_299 : hasBody Tryz.prog 299 = true := by kernel_rfl
theorem b_301 : hasBody Tryz.prog 301 = true := by kernel_rfl
theorem b_265 : hasBody Tryz.prog 265 = true := by kernel_rfl
theorem b_285 : hasBody Tryz.prog 285 = true := by kernel_rfl
theorem b_274 : hasBody Tryz.prog 274 = true := by kernel_rfl
theorem b_300 : hasBody Tryz.prog 300 = true := by kernel_rfl
theorem b_241 : hasBody Tryz.prog 241 = true := by kernel_rfl
theorem b_272 : hasBody Tryz.prog 272 = true := by kernel_rfl
theorem b_263 : hasBody Tryz.prog 263 = true := by kernel_rfl
theorem b_264 : hasBody Tryz.prog 264 = true := by kernel_rfl
theorem b_283 : hasBody Tryz.prog 283 = true := by kernel_rfl
theorem b_284 : hasBody Tryz.prog 284 = true := by kernel_rfl
theorem y_88 : zeroTy Tryz.prog 88 = some (.agg #[(.slice none 0 0), (.slice none 0 0)]) := by kernel_rfl
theorem f_88_0 : fieldOff Tryz.prog 88 0 = some 0 := by kernel_rfl
theorem f_88_1 : fieldOff Tryz.prog 88 1 = some 1 := by kernel_rfl
theorem pl_88 : placeTy Tryz.prog 88 = some ([(0, 1), (1, 1)], [(.slice none 0 0), (.slice none 0 0)]) := by kernel_rfl
theorem z_88 : sizeTy Tryz.prog 88 = some 2 := by kernel_rfl
theorem a_88 : aggTy Tryz.prog 88 = some 2 := by kernel_rfl
theorem s_228 : sliceTy Tryz.prog 228 = some (88, 2, 48) := by kernel_rfl
theorem b_270 : hasBody Tryz.prog 270 = true := by kernel_rfl
theorem b_271 : hasBody Tryz.prog 271 = true := by kernel_rfl
theorem b_258 : hasBody Tryz.prog 258 = true := by kernel_rfl
theorem b_230 : hasBody Tryz.prog 230 = true := by kernel_rfl
theorem s_113 : sliceTy Tryz.prog 113 = some (34, 3, 64) := by kernel_rfl
theorem b_177 : hasBody Tryz.prog 177 = true := by kernel_rfl
theorem b_117 : hasBody Tryz.prog 117 = true := by kernel_rfl
theorem b_124 : hasBody Tryz.prog 124 = true := by kernel_rfl
theorem b_44 : hasBody Tryz.prog 44 = true := by kernel_rfl
theorem b_51 : hasBody Tryz.prog 51 = true := by kernel_rfl
theorem b_52 : hasBody Tryz.prog 52 = true := by kernel_rfl
theorem b_46 : hasBody Tryz.prog 46 = true := by kernel_rfl
theorem b_45 : hasBody Tryz.prog 45 = true := by kernel_rfl
theorem b_47 : hasBody Tryz.prog 47 = true := by kernel_rfl
theorem o_42 : oneTy Tryz.prog 42 = true := by kernel_rfl
theorem b_11 : hasBody Tryz.prog 11 = true := by kernel_rfl
theorem b_106 : hasBody Tryz.prog 106 = true := by kernel_rfl
theorem f_164_1 : fieldOff Tryz.prog 164 1 = some 1 := by kernel_rfl
theorem o_160 : oneTy Tryz.prog 160 = true := by kernel_rfl
theorem a_164 : aggTy Tryz.prog 164 = some 2 := by kernel_rfl
theorem b_253 : hasBody Tryz.prog 253 = true := by kernel_rfl
theorem f_164_0 : fieldOff Tryz.prog 164 0 = some 0 := by kernel_rfl
theorem o_95 : oneTy Tryz.prog 95 = true := by kernel_rfl
theorem b_219 : hasBody Tryz.prog 219 = true := by kernel_rfl
theorem b_172 : hasBody Tryz.prog 172 = true := by kernel_rfl
theorem b_171 : hasBody Tryz.prog 171 = true := by kernel_rfl
theorem y_158 : zeroTy Tryz.prog 158 = some (.agg #[(.pointer none), (.pointer none), (.int .u64 0)]) := by kernel_rfl
theorem z_158 : sizeTy Tryz.prog 158 = some 3 := by kernel_rfl
theorem a_158 : aggTy Tryz.prog 158 = some 3 := by kernel_rfl
theorem b_110 : hasBody Tryz.prog 110 = true := by kernel_rfl
theorem y_42 : zeroTy Tryz.prog 42 = some (.slice none 0 0) := by kernel_rfl
theorem b_56 : hasBody Tryz.prog 56 = true := by kernel_rfl
theorem z_42 : sizeTy Tryz.prog 42 = some 1 := by kernel_rfl
theorem b_57 : hasBody Tryz.prog 57 = true := by kernel_rfl
theorem b_55 : hasBody Tryz.prog 55 = true := by kernel_rfl
theorem b_9 : hasBody Tryz.prog 9 = true := by kernel_rfl
theorem b_240 : hasBody Tryz.prog 240 = true := by kernel_rfl
theorem b_195 : hasBody Tryz.prog 195 = true := by kernel_rfl
theorem b_131 : hasBody Tryz.prog 131 = true := by kernel_rfl
theorem b_136 : hasBody Tryz.prog 136 = true := by kernel_rfl
theorem b_76 : hasBody Tryz.prog 76 = true := by kernel_rfl
theorem b_77 : hasBody Tryz.prog 77 = true := by kernel_rfl
theorem b_78 : hasBody Tryz.prog 78 = true := by kernel_rfl
theorem b_80 : hasBody Tryz.prog 80 = true := by kernel_rfl
theorem b_81 : hasBody Tryz.prog 81 = true := by kernel_rfl
theorem b_16 : hasBody Tryz.prog 16 = true := by kernel_rfl
theorem b_69 : hasBody Tryz.prog 69 = true := by kernel_rfl
theorem b_71 : hasBody Tryz.prog 71 = true := by kernel_rfl
theorem b_72 : hasBody Tryz.prog 72 = true := by kernel_rfl
theorem b_14 : hasBody Tryz.prog 14 = true := by kernel_rfl
theorem b_60 : hasBody Tryz.prog 60 = true := by kernel_rfl
theorem b_61 : hasBody Tryz.prog 61 = true := by kernel_rfl
theorem b_63 : hasBody Tryz.prog 63 = true := by kernel_rfl
theorem b_64 : hasBody Tryz.prog 64 = true := by kernel_rfl
theorem b_65 : hasBody Tryz.prog 65 = true := by kernel_rfl
theorem b_20 : hasBody Tryz.prog 20 = true := by kernel_rfl
theorem b_21 : hasBody Tryz.prog 21 = true := by kernel_rfl
theorem b_22 : hasBody Tryz.prog 22 = true := by kernel_rfl
theorem b_24 : hasBody Tryz.prog 24 = true := by kernel_rfl
theorem b_25 : hasBody Tryz.prog 25 = true := by kernel_rfl
theorem b_26 : hasBody Tryz.prog 26 = true := by kernel_rfl
theorem b_23 : hasBody Tryz.prog 23 = true := by kernel_rfl
theorem b_27 : hasBody Tryz.prog 27 = true := by kernel_rfl
theorem b_17 : hasBody Tryz.prog 17 = true := by kernel_rfl
theorem b_28 : hasBody Tryz.prog 28 = true := by kernel_rfl
theorem b_29 : hasBody Tryz.prog 29 = true := by kernel_rfl
theorem b_30 : hasBody Tryz.prog 30 = true := by kernel_rfl
theorem b_31 : hasBody Tryz.prog 31 = true := by kernel_rfl
theorem b_32 : hasBody Tryz.prog 32 = true := by kernel_rfl
theorem b_33 : hasBody Tryz.prog 33 = true := by kernel_rfl
theorem b_18 : hasBody Tryz.prog 18 = true := by kernel_rfl
theorem b_19 : hasBody Tryz.prog 19 = true := by kernel_rfl
end Go.Sy
