/-
  Closed facts about the program's tables.
  Conditions: none.
-/
import Derived.Test.YtobihkjhlopggaaGreatDoorProg
import Derived.Test.YtobihkjhlopggaaGreatDoorTypes
set_option maxRecDepth 20000
namespace Go.Sy
open Go Go.RowKit Go.Proofs
abbrev Cy (f : Nat) (vs : List Value) (w : World) (R : Ending → World → Prop) : Prop := Calls Tryz.prog f vs.toArray w R
theorem mixed : Tryz.prog.follows .mixedOrders = true := by kernel_rfl
theorem s_26 : sliceTy Tryz.prog 26 = some (3, 1, 8) := by kernel_rfl
theorem y_3 : zeroTy Tryz.prog 3 = some (.int .i64 0) := by kernel_rfl
theorem o_3 : oneTy Tryz.prog 3 = true := by kernel_rfl
theorem z_3 : sizeTy Tryz.prog 3 = some 1 := by kernel_rfl
theorem s_105 : sliceTy Tryz.prog 105 = some (9, 1, 16) := by kernel_rfl
theorem o_9 : oneTy Tryz.prog 9 = true := by kernel_rfl
theorem us_9 : Tryz.prog.underlying 9 = some .string := by kernel_rfl
theorem f_107_0 : fieldOff Tryz.prog 107 0 = some 0 := by kernel_rfl
theorem f_107_1 : fieldOff Tryz.prog 107 1 = some 1 := by kernel_rfl
theorem o_105 : oneTy Tryz.prog 105 = true := by kernel_rfl
theorem b_175 : hasBody Tryz.prog 175 = true := by kernel_rfl
theorem y_9 : zeroTy Tryz.prog 9 = some (.string ⟨#[]⟩) := by kernel_rfl
theorem z_9 : sizeTy Tryz.prog 9 = some 1 := by kernel_rfl
theorem y_124 : zeroTy Tryz.prog 124 = some (.agg #[(.string ⟨#[]⟩), (.slice none 0 0)]) := by kernel_rfl
theorem f_124_0 : fieldOff Tryz.prog 124 0 = some 0 := by kernel_rfl
theorem b_184 : hasBody Tryz.prog 184 = true := by kernel_rfl
theorem f_124_1 : fieldOff Tryz.prog 124 1 = some 1 := by kernel_rfl
theorem z_105 : sizeTy Tryz.prog 105 = some 1 := by kernel_rfl
theorem a_124 : aggTy Tryz.prog 124 = some 2 := by kernel_rfl
theorem z_124 : sizeTy Tryz.prog 124 = some 2 := by kernel_rfl
theorem b_202 : hasBody Tryz.prog 202 = true := by kernel_rfl
theorem b_269 : hasBody Tryz.prog 269 = true := by kernel_rfl
theorem u8_5 : Tryz.prog.underlying 5 = some (.int .u8) := by kernel_rfl
theorem ui_3 : Tryz.prog.underlying 3 = some (.int .i64) := by kernel_rfl
theorem s_166 : sliceTy Tryz.prog 166 = some (5, 1, 1) := by kernel_rfl
theorem y_5 : zeroTy Tryz.prog 5 = some (.int .u8 0) := by kernel_rfl
theorem usl_166 : Tryz.prog.underlying 166 = some (.slice 5) := by kernel_rfl
theorem b_244 : hasBody Tryz.prog 244 = true := by kernel_rfl
theorem b_251 : hasBody Tryz.prog 251 = true := by kernel_rfl
theorem b_252 : hasBody Tryz.prog 252 = true := by kernel_rfl
theorem b_141 : hasBody Tryz.prog 141 = true := by kernel_rfl
theorem b_218 : hasBody Tryz.prog 218 = true := by kernel_rfl
theorem b_50 : hasBody Tryz.prog 50 = true := by kernel_rfl
theorem b_155 : hasBody Tryz.prog 155 = true := by kernel_rfl
theorem b_206 : hasBody Tryz.prog 206 = true := by kernel_rfl
theorem b_150 : hasBody Tryz.prog 150 = true := by kernel_rfl
theorem b_156 : hasBody Tryz.prog 156 = true := by kernel_rfl
theorem b_151 : hasBody Tryz.prog 151 = true := by kernel_rfl
theorem b_196 : hasBody Tryz.prog 196 = true := by kernel_rfl
theorem pl_124 : placeTy Tryz.prog 124 = some ([(0, 1), (1, 1)], [(.string ⟨#[]⟩), (.slice none 0 0)]) := by kernel_rfl
theorem b_178 : hasBody Tryz.prog 178 = true := by kernel_rfl
theorem b_59 : hasBody Tryz.prog 59 = true := by kernel_rfl
theorem f_204_0 : fieldOff Tryz.prog 204 0 = some 0 := by kernel_rfl
theorem f_204_1 : fieldOff Tryz.prog 204 1 = some 1 := by kernel_rfl
theorem y_168 : zeroTy Tryz.prog 168 = some (.agg #[(.string ⟨#[]⟩), (.string ⟨#[]⟩)]) := by kernel_rfl
theorem f_168_0 : fieldOff Tryz.prog 168 0 = some 0 := by kernel_rfl
theorem f_168_1 : fieldOff Tryz.prog 168 1 = some 1 := by kernel_rfl
theorem a_168 : aggTy Tryz.prog 168 = some 2 := by kernel_rfl
theorem z_168 : sizeTy Tryz.prog 168 = some 2 := by kernel_rfl
theorem s_22 : sliceTy Tryz.prog 22 = some (107, 2, 40) := by kernel_rfl
theorem a_107 : aggTy Tryz.prog 107 = some 2 := by kernel_rfl
theorem b_115 : hasBody Tryz.prog 115 = true := by kernel_rfl
theorem s_31 : sliceTy Tryz.prog 31 = some (124, 2, 40) := by kernel_rfl
theorem b_127 : hasBody Tryz.prog 127 = true := by kernel_rfl
theorem b_139 : hasBody Tryz.prog 139 = true := by kernel_rfl
theorem s_23 : sliceTy Tryz.prog 23 = some (204, 2, 32) := by kernel_rfl
theorem a_204 : aggTy Tryz.prog 204 = some 2 := by kernel_rfl
theorem b_149 : hasBody Tryz.prog 149 = true := by kernel_rfl
theorem s_32 : sliceTy Tryz.prog 32 = some (168, 2, 32) := by kernel_rfl
theorem b_152 : hasBody Tryz.prog 152 = true := by kernel_rfl
theorem b_157 : hasBody Tryz.prog 157 = true := by kernel_rfl
theorem f_25_0 : fieldOff Tryz.prog 25 0 = some 0 := by kernel_rfl
theorem f_25_1 : fieldOff Tryz.prog 25 1 = some 1 := by kernel_rfl
theorem o_22 : oneTy Tryz.prog 22 = true := by kernel_rfl
theorem b_94 : hasBody Tryz.prog 94 = true := by kernel_rfl
theorem f_25_2 : fieldOff Tryz.prog 25 2 = some 2 := by kernel_rfl
theorem o_23 : oneTy Tryz.prog 23 = true := by kernel_rfl
theorem b_95 : hasBody Tryz.prog 95 = true := by kernel_rfl
theorem y_34 : zeroTy Tryz.prog 34 = some (.agg #[(.string ⟨#[]⟩), (.slice none 0 0), (.slice none 0 0)]) := by kernel_rfl
theorem f_34_0 : fieldOff Tryz.prog 34 0 = some 0 := by kernel_rfl
theorem b_97 : hasBody Tryz.prog 97 = true := by kernel_rfl
theorem f_34_1 : fieldOff Tryz.prog 34 1 = some 1 := by kernel_rfl
theorem z_31 : sizeTy Tryz.prog 31 = some 1 := by kernel_rfl
theorem b_98 : hasBody Tryz.prog 98 = true := by kernel_rfl
theorem f_34_2 : fieldOff Tryz.prog 34 2 = some 2 := by kernel_rfl
theorem z_32 : sizeTy Tryz.prog 32 = some 1 := by kernel_rfl
theorem a_34 : aggTy Tryz.prog 34 = some 3 := by kernel_rfl
theorem z_34 : sizeTy Tryz.prog 34 = some 3 := by kernel_rfl
theorem o_31 : oneTy Tryz.prog 31 = true := by kernel_rfl
theorem b_103 : hasBody Tryz.prog 103 = true := by kernel_rfl
theorem o_32 : oneTy Tryz.prog 32 = true := by kernel_rfl
theorem b_104 : hasBody Tryz.prog 104 = true := by kernel_rfl
theorem f_28_0 : fieldOff Tryz.prog 28 0 = some 0 := by kernel_rfl
theorem a_25 : aggTy Tryz.prog 25 = some 3 := by kernel_rfl
theorem b_42 : hasBody Tryz.prog 42 = true := by kernel_rfl
theorem f_28_2 : fieldOff Tryz.prog 28 2 = some 4 := by kernel_rfl
theorem o_26 : oneTy Tryz.prog 26 = true := by kernel_rfl
theorem b_43 : hasBody Tryz.prog 43 = true := by kernel_rfl
theorem y_36 : zeroTy Tryz.prog 36 = some (.agg #[(.string ⟨#[]⟩), (.slice none 0 0), (.slice none 0 0), (.int .i64 0), (.slice none 0 0), (.int .i64 0), (.int .i64 0)]) := by kernel_rfl
theorem b_48 : hasBody Tryz.prog 48 = true := by kernel_rfl
theorem f_36_0 : fieldOff Tryz.prog 36 0 = some 0 := by kernel_rfl
theorem f_28_1 : fieldOff Tryz.prog 28 1 = some 3 := by kernel_rfl
theorem f_36_1 : fieldOff Tryz.prog 36 1 = some 3 := by kernel_rfl
theorem b_49 : hasBody Tryz.prog 49 = true := by kernel_rfl
theorem f_36_2 : fieldOff Tryz.prog 36 2 = some 4 := by kernel_rfl
theorem z_26 : sizeTy Tryz.prog 26 = some 1 := by kernel_rfl
theorem f_28_3 : fieldOff Tryz.prog 28 3 = some 5 := by kernel_rfl
theorem f_36_3 : fieldOff Tryz.prog 36 3 = some 5 := by kernel_rfl
theorem f_28_4 : fieldOff Tryz.prog 28 4 = some 6 := by kernel_rfl
theorem f_36_4 : fieldOff Tryz.prog 36 4 = some 6 := by kernel_rfl
theorem a_36 : aggTy Tryz.prog 36 = some 7 := by kernel_rfl
theorem z_36 : sizeTy Tryz.prog 36 = some 7 := by kernel_rfl
theorem b_53 : hasBody Tryz.prog 53 = true := by kernel_rfl
theorem b_54 : hasBody Tryz.prog 54 = true := by kernel_rfl
theorem s_40 : sliceTy Tryz.prog 40 = some (28, 7, 112) := by kernel_rfl
theorem a_28 : aggTy Tryz.prog 28 = some 7 := by kernel_rfl
theorem b_8 : hasBody Tryz.prog 8 = true := by kernel_rfl
theorem s_42 : sliceTy Tryz.prog 42 = some (36, 7, 112) := by kernel_rfl
theorem b_10 : hasBody Tryz.prog 10 = true := by kernel_rfl
theorem b_12 : hasBody Tryz.prog 12 = true := by kernel_rfl
theorem b_87 : hasBody Tryz.prog 87 = true := by kernel_rfl
theorem b_112 : hasBody Tryz.prog 112 = true := by kernel_rfl
theorem uu_208 : Tryz.prog.underlying 208 = some (.int .u64) := by kernel_rfl
theorem b_153 : hasBody Tryz.prog 153 = true := by kernel_rfl
theorem o_271 : oneTy Tryz.prog 271 = true := by kernel_rfl
theorem z_271 : sizeTy Tryz.prog 271 = some 1 := by kernel_rfl
theorem b_245 : hasBody Tryz.prog 245 = true := by kernel_rfl
theorem uu_271 : Tryz.prog.underlying 271 = some (.int .u64) := by kernel_rfl
theorem y_271 : zeroTy Tryz.prog 271 = some (.int .u64 0) := by kernel_rfl
theorem b_246 : hasBody Tryz.prog 246 = true := by kernel_rfl
theorem b_247 : hasBody Tryz.prog 247 = true := by kernel_rfl
theorem b_266 : hasBody Tryz.prog 266 = true := by kernel_rfl
theorem b_249 : hasBody Tryz.prog 249 = true := by kernel_rfl
theorem b_248 : hasBody Tryz.prog 248 = true := by kernel_rfl
theorem b_209 : hasBody Tryz.prog 209 = true := by kernel_rfl
theorem b_210 : hasBody Tryz.prog 210 = true := by kernel_rfl
theorem b_211 : hasBody Tryz.prog 211 = true := by kernel_rfl
theorem b_212 : hasBody Tryz.prog 212 = true := by kernel_rfl
theorem b_213 : hasBody Tryz.prog 213 = true := by kernel_rfl
theorem b_214 : hasBody Tryz.prog 214 = true := by kernel_rfl
theorem b_215 : hasBody Tryz.prog 215 = true := by kernel_rfl
theorem b_216 : hasBody Tryz.prog 216 = true := by kernel_rfl
theorem b_154 : hasBody Tryz.prog 154 = true := by kernel_rfl
theorem s_151 : sliceTy Tryz.prog 151 = some (3, 1, 8) := by kernel_rfl
theorem f_212_0 : fieldOff Tryz.prog 212 0 = some 0 := by kernel_rfl
theorem o_149 : oneTy Tryz.prog 149 = true := by kernel_rfl
theorem b_338 : hasBody Tryz.prog 338 = true := by kernel_rfl
theorem pl_212 : placeTy Tryz.prog 212 = some ([(0, 1)], [.nilIface]) := by kernel_rfl
theorem up_210 : Tryz.prog.underlying 210 = some (.pointer 212) := by kernel_rfl
theorem b_99 : hasBody Tryz.prog 99 = true := by kernel_rfl
theorem b_101 : hasBody Tryz.prog 101 = true := by kernel_rfl
theorem b_100 : hasBody Tryz.prog 100 = true := by kernel_rfl
theorem b_132 : hasBody Tryz.prog 132 = true := by kernel_rfl
theorem b_118 : hasBody Tryz.prog 118 = true := by kernel_rfl
theorem b_160 : hasBody Tryz.prog 160 = true := by kernel_rfl
theorem b_161 : hasBody Tryz.prog 161 = true := by kernel_rfl
theorem pl_34 : placeTy Tryz.prog 34 = some ([(0, 1), (1, 1), (2, 1)], [(.string ⟨#[]⟩), (.slice none 0 0), (.slice none 0 0)]) := by kernel_rfl
theorem b_158 : hasBody Tryz.prog 158 = true := by kernel_rfl
theorem b_159 : hasBody Tryz.prog 159 = true := by kernel_rfl
theorem b_44 : hasBody Tryz.prog 44 = true := by kernel_rfl
theorem b_102 : hasBody Tryz.prog 102 = true := by kernel_rfl
theorem f_88_0 : fieldOff Tryz.prog 88 0 = some 0 := by kernel_rfl
theorem b_96 : hasBody Tryz.prog 96 = true := by kernel_rfl
theorem b_51 : hasBody Tryz.prog 51 = true := by kernel_rfl
theorem b_52 : hasBody Tryz.prog 52 = true := by kernel_rfl
theorem b_46 : hasBody Tryz.prog 46 = true := by kernel_rfl
theorem b_45 : hasBody Tryz.prog 45 = true := by kernel_rfl
theorem pl_88 : placeTy Tryz.prog 88 = some ([(0, 1), (1, 1)], [(.slice none 0 0), (.slice none 0 0)]) := by kernel_rfl
theorem b_47 : hasBody Tryz.prog 47 = true := by kernel_rfl
theorem o_42 : oneTy Tryz.prog 42 = true := by kernel_rfl
theorem b_11 : hasBody Tryz.prog 11 = true := by kernel_rfl
theorem b_107 : hasBody Tryz.prog 107 = true := by kernel_rfl
theorem b_105 : hasBody Tryz.prog 105 = true := by kernel_rfl
theorem b_106 : hasBody Tryz.prog 106 = true := by kernel_rfl
theorem pl_36 : placeTy Tryz.prog 36 = some ([(0, 3), (3, 1), (4, 1), (5, 1), (6, 1)], [(.string ⟨#[]⟩), (.slice none 0 0), (.slice none 0 0), (iv 0), (.slice none 0 0), (iv 0), (iv 0)]) := by kernel_rfl
theorem f_164_1 : fieldOff Tryz.prog 164 1 = some 1 := by kernel_rfl
theorem o_160 : oneTy Tryz.prog 160 = true := by kernel_rfl
theorem a_164 : aggTy Tryz.prog 164 = some 2 := by kernel_rfl
theorem b_253 : hasBody Tryz.prog 253 = true := by kernel_rfl
theorem f_164_0 : fieldOff Tryz.prog 164 0 = some 0 := by kernel_rfl
theorem o_95 : oneTy Tryz.prog 95 = true := by kernel_rfl
theorem b_219 : hasBody Tryz.prog 219 = true := by kernel_rfl
theorem b_172 : hasBody Tryz.prog 172 = true := by kernel_rfl
theorem b_171 : hasBody Tryz.prog 171 = true := by kernel_rfl
theorem y_158 : zeroTy Tryz.prog 158 = some (.agg #[(.pointer none), (.pointer none), (.int .u64 0)]) := by kernel_rfl
theorem z_158 : sizeTy Tryz.prog 158 = some 3 := by kernel_rfl
theorem a_158 : aggTy Tryz.prog 158 = some 3 := by kernel_rfl
theorem b_110 : hasBody Tryz.prog 110 = true := by kernel_rfl
theorem y_42 : zeroTy Tryz.prog 42 = some (.slice none 0 0) := by kernel_rfl
theorem b_56 : hasBody Tryz.prog 56 = true := by kernel_rfl
theorem z_42 : sizeTy Tryz.prog 42 = some 1 := by kernel_rfl
theorem b_57 : hasBody Tryz.prog 57 = true := by kernel_rfl
theorem b_55 : hasBody Tryz.prog 55 = true := by kernel_rfl
theorem b_9 : hasBody Tryz.prog 9 = true := by kernel_rfl
theorem b_60 : hasBody Tryz.prog 60 = true := by kernel_rfl
theorem b_61 : hasBody Tryz.prog 61 = true := by kernel_rfl
theorem b_62 : hasBody Tryz.prog 62 = true := by kernel_rfl
theorem b_63 : hasBody Tryz.prog 63 = true := by kernel_rfl
theorem b_64 : hasBody Tryz.prog 64 = true := by kernel_rfl
theorem b_65 : hasBody Tryz.prog 65 = true := by kernel_rfl
theorem b_13 : hasBody Tryz.prog 13 = true := by kernel_rfl
theorem b_15 : hasBody Tryz.prog 15 = true := by kernel_rfl
theorem b_14 : hasBody Tryz.prog 14 = true := by kernel_rfl
theorem b_16 : hasBody Tryz.prog 16 = true := by kernel_rfl
theorem b_17 : hasBody Tryz.prog 17 = true := by kernel_rfl
theorem b_18 : hasBody Tryz.prog 18 = true := by kernel_rfl
theorem b_19 : hasBody Tryz.prog 19 = true := by kernel_rfl
end Go.Sy
