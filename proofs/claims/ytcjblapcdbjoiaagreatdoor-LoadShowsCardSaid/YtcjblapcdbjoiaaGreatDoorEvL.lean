/- The table of the functions, what is known of them beforehand, their equations; that their code is the loaded program's (by the kernel). -/
import Derived.Test.YtcjblapcdbjoiaaGreatDoorEvK
import Derived.Test.YtcjblapcdbjoiaaGreatDoorEvH
import Derived.Test.YtcjblapcdbjoiaaGreatDoorEvI
import Derived.Test.YtcjblapcdbjoiaaGreatDoorProg
import Derived.KernelRfl
set_option linter.unnecessarySimpa false
set_option linter.unusedVariables false
set_option linter.unusedSimpArgs false
set_option linter.unusedSectionVars false
namespace Go.Ev
set_option maxRecDepth 10000
def TB0 : BT IF := (.node 11 ir_ref03_nodes (.node 7 ir_law11_awake (.node 5 ir_ref05_Formed (.node 4 ir_load_Show (.node 3 ir_law11_LoadShows .leaf .leaf) .leaf) (.node 6 ir_ref03_Proper .leaf .leaf)) (.node 9 ir_print_Text (.node 8 ir_ref11_Show .leaf .leaf) (.node 10 ir_ref05_formed .leaf .leaf))) (.node 16 ir_16 (.node 14 ir_14 (.node 13 ir_13 (.node 12 ir_ref03_formed .leaf .leaf) .leaf) (.node 15 ir_15 .leaf .leaf)) (.node 18 ir_print_Raw (.node 17 ir_ref07_Printer_Text .leaf .leaf) (.node 19 ir_syntax_Text .leaf .leaf))))
def TB1 : BT IF := (.node 31 ir_31 (.node 25 ir_25 (.node 23 ir_ref05_family (.node 22 ir_ref03_Split (.node 21 ir_ref05_closed .leaf .leaf) .leaf) (.node 24 ir_24 .leaf .leaf)) (.node 28 ir_28 (.node 26 ir_26 .leaf .leaf) (.node 30 ir_sign_Check .leaf .leaf))) (.node 36 ir_print_good (.node 34 ir_ref07_Printer_Raw (.node 33 ir_33 (.node 32 ir_32 .leaf .leaf) .leaf) (.node 35 ir_ref02_Text .leaf .leaf)) (.node 38 ir_print_kept (.node 37 ir_print_printer_scoped .leaf .leaf) (.node 39 ir_print_printer_raw .leaf .leaf))))
def TB2 : BT IF := (.node 50 ir_50 (.node 45 ir_ref03_Metas (.node 43 ir_ref03_Constants (.node 42 ir_ref01_IsSmall (.node 41 ir_syntax_text .leaf .leaf) .leaf) (.node 44 ir_ref03_Free .leaf .leaf)) (.node 47 ir_47 (.node 46 ir_46 .leaf .leaf) (.node 49 ir_49 .leaf .leaf))) (.node 57 ir_57 (.node 55 ir_sign_each (.node 54 ir_54 (.node 51 ir_51 .leaf .leaf) .leaf) (.node 56 ir_sign_formed .leaf .leaf)) (.node 59 ir_59 (.node 58 ir_58 .leaf .leaf) (.node 60 ir_60 .leaf .leaf))))
def TB3 : BT IF := (.node 72 ir_ref07_Printer_scoped (.node 67 ir_67 (.node 65 ir_term_Free (.node 64 ir_64 (.node 63 ir_63 .leaf .leaf) .leaf) (.node 66 ir_66 .leaf .leaf)) (.node 69 ir_69 (.node 68 ir_68 .leaf .leaf) (.node 70 ir_70 .leaf .leaf))) (.node 76 ir_ref02_within (.node 74 ir_ref07_Printer_raw (.node 73 ir_ref07_Printer_full .leaf .leaf) (.node 75 ir_ref02_Well .leaf .leaf)) (.node 78 ir_lexis_IsCapital (.node 77 ir_ref02_wide .leaf .leaf) (.node 79 ir_term_Check .leaf .leaf))))
def TB4 : BT IF := (.node 89 ir_slices_Contains_of_int_int (.node 85 ir_print_printer_name (.node 83 ir_print_node (.node 82 ir_print_printer_head (.node 81 ir_print_printer_scoped_1 .leaf .leaf) .leaf) (.node 84 ir_print_printer_pi .leaf .leaf)) (.node 87 ir_print_printer_raw_1 (.node 86 ir_print_fold_api_Term_api_Raw .leaf .leaf) (.node 88 ir_syntax_formed .leaf .leaf))) (.node 94 ir_94 (.node 92 ir_ref03_heads (.node 91 ir_ref01_small (.node 90 ir_ref01_IsName .leaf .leaf) .leaf) (.node 93 ir_93 .leaf .leaf)) (.node 97 ir_97 (.node 95 ir_95 .leaf .leaf) (.node 98 ir_98 .leaf .leaf))))
def TB5 : BT IF := (.node 112 ir_112 (.node 108 ir_sign_formed_1 (.node 106 ir_sign_name (.node 105 ir_sign_each_1 (.node 102 ir_strconv_Itoa .leaf .leaf) .leaf) (.node 107 ir_term_Domains .leaf .leaf)) (.node 110 ir_sign_target (.node 109 ir_sign_kind .leaf .leaf) (.node 111 ir_111 .leaf .leaf))) (.node 117 ir_117 (.node 115 ir_115 (.node 113 ir_113 .leaf .leaf) (.node 116 ir_116 .leaf .leaf)) (.node 119 ir_119 (.node 118 ir_term_numbers .leaf .leaf) (.node 120 ir_term_Free_1 .leaf .leaf))))
def TB6 : BT IF := (.node 133 ir_133 (.node 129 ir_129 (.node 126 ir_126 (.node 123 ir_123 (.node 122 ir_122 .leaf .leaf) .leaf) (.node 127 ir_127 .leaf .leaf)) (.node 131 ir_131 (.node 130 ir_130 .leaf .leaf) (.node 132 ir_132 .leaf .leaf))) (.node 138 ir_ref07_Printer_head (.node 136 ir_ref07_lowered (.node 135 ir_ref03_Occurs (.node 134 ir_134 .leaf .leaf) .leaf) (.node 137 ir_ref07_Printer_variable .leaf .leaf)) (.node 140 ir_ref02_formed (.node 139 ir_ref02_nodes .leaf .leaf) (.node 141 ir_lexis_name .leaf .leaf))))
def TB7 : BT IF := (.node 151 ir_ref01_run (.node 147 ir_sign_Find (.node 145 ir_term_Occurs (.node 144 ir_term_Under (.node 143 ir_term_proper .leaf .leaf) .leaf) (.node 146 ir_term_Moved .leaf .leaf)) (.node 149 ir_slices_Index_of_int_int (.node 148 ir_syntax_named .leaf .leaf) (.node 150 ir_ref01_letter .leaf .leaf))) (.node 155 ir_155 (.node 153 ir_ref03_below (.node 152 ir_ref03_put .leaf .leaf) (.node 154 ir_154 .leaf .leaf)) (.node 157 ir_157 (.node 156 ir_term_Map .leaf .leaf) (.node 158 ir_158 .leaf .leaf))))
def TB8 : BT IF := (.node 170 ir_lexis_digit (.node 166 ir_166 (.node 162 ir_162 (.node 161 ir_161 (.node 160 ir_lexis_small .leaf .leaf) .leaf) (.node 164 ir_164 .leaf .leaf)) (.node 168 ir_168 (.node 167 ir_167 .leaf .leaf) (.node 169 ir_169 .leaf .leaf))) (.node 180 ir_180 (.node 177 ir_177 (.node 176 ir_176 (.node 175 ir_175 .leaf .leaf) .leaf) (.node 179 ir_179 .leaf .leaf)) (.node 182 ir_182 (.node 181 ir_181 .leaf .leaf) (.node 183 ir_183 .leaf .leaf))))
def TB9 : BT IF := (.node 195 ir_195 (.node 190 ir_190 (.node 188 ir_188 (.node 186 ir_term_numbers_1 (.node 185 ir_185 .leaf .leaf) .leaf) (.node 189 ir_189 .leaf .leaf)) (.node 192 ir_192 (.node 191 ir_191 .leaf .leaf) (.node 194 ir_194 .leaf .leaf))) (.node 200 ir_200 (.node 198 ir_198 (.node 197 ir_197 (.node 196 ir_196 .leaf .leaf) .leaf) (.node 199 ir_199 .leaf .leaf)) (.node 202 ir_202 (.node 201 ir_201 .leaf .leaf) (.node 203 ir_203 .leaf .leaf))))
def TB10 : BT IF := (.node 215 ir_ref01_byteOf (.node 211 ir_ref05_Find (.node 209 ir_ref03_low (.node 208 ir_208 (.node 207 ir_207 .leaf .leaf) .leaf) (.node 210 ir_ref03_Shift .leaf .leaf)) (.node 213 ir_lexis_nameByte (.node 212 ir_ref02_IsName .leaf .leaf) (.node 214 ir_term_Moved_1 .leaf .leaf))) (.node 221 ir_221 (.node 219 ir_219 (.node 218 ir_218 (.node 217 ir_217 .leaf .leaf) .leaf) (.node 220 ir_220 .leaf .leaf)) (.node 228 ir_228 (.node 227 ir_227 .leaf .leaf) (.node 229 ir_229 .leaf .leaf))))
def TB11 : BT IF := (.node 244 ir_244 (.node 239 ir_239 (.node 237 ir_237 (.node 236 ir_236 (.node 235 ir_235 .leaf .leaf) .leaf) (.node 238 ir_238 .leaf .leaf)) (.node 241 ir_241 (.node 240 ir_240 .leaf .leaf) (.node 242 ir_242 .leaf .leaf))) (.node 248 ir_248 (.node 246 ir_246 (.node 245 ir_245 .leaf .leaf) (.node 247 ir_247 .leaf .leaf)) (.node 250 ir_250 (.node 249 ir_249 .leaf .leaf) (.node 251 ir_251 .leaf .leaf))))
def TB12 : BT IF := (.node 264 ir_264 (.node 259 ir_259 (.node 256 ir_256 (.node 255 ir_255 (.node 254 ir_254 .leaf .leaf) .leaf) (.node 258 ir_258 .leaf .leaf)) (.node 262 ir_262 (.node 260 ir_ref03_moved .leaf .leaf) (.node 263 ir_263 .leaf .leaf))) (.node 276 ir_276 (.node 267 ir_267 (.node 266 ir_266 (.node 265 ir_265 .leaf .leaf) .leaf) (.node 268 ir_268 .leaf .leaf)) (.node 281 ir_281 (.node 277 ir_277 .leaf .leaf) (.node 282 ir_282 .leaf .leaf))))
def TB13 : BT IF := (.node 293 ir_293 (.node 289 ir_289 (.node 286 ir_286 (.node 285 ir_285 (.node 284 ir_284 .leaf .leaf) .leaf) (.node 288 ir_288 .leaf .leaf)) (.node 291 ir_291 (.node 290 ir_290 .leaf .leaf) (.node 292 ir_292 .leaf .leaf))) (.node 298 ir_298 (.node 295 ir_295 (.node 294 ir_294 .leaf .leaf) (.node 297 ir_297 .leaf .leaf)) (.node 300 ir_300 (.node 299 ir_299 .leaf .leaf) (.node 302 ir_302 .leaf .leaf))))
def TB14 : BT IF := (.node 332 ir_332 (.node 328 ir_328 (.node 306 ir_306 (.node 305 ir_305 (.node 304 ir_304 .leaf .leaf) .leaf) (.node 307 ir_307 .leaf .leaf)) (.node 330 ir_330 (.node 329 ir_329 .leaf .leaf) (.node 331 ir_331 .leaf .leaf))) (.node 349 ir_349 (.node 336 ir_336 (.node 334 ir_334 (.node 333 ir_333 .leaf .leaf) .leaf) (.node 337 ir_337 .leaf .leaf)) (.node 351 ir_351 (.node 350 ir_350 .leaf .leaf) (.node 352 ir_352 .leaf .leaf))))
def TB15 : BT IF := (.node 371 ir_371 (.node 363 ir_363 (.node 356 ir_356 (.node 355 ir_355 (.node 354 ir_354 .leaf .leaf) .leaf) (.node 358 ir_358 .leaf .leaf)) (.node 366 ir_366 (.node 365 ir_365 .leaf .leaf) (.node 368 ir_368 .leaf .leaf))) (.node 378 ir_378 (.node 373 ir_373 (.node 372 ir_372 .leaf .leaf) (.node 376 ir_376 .leaf .leaf)) (.node 397 ir_397 (.node 396 ir_396 .leaf .leaf) (.node 398 ir_398 .leaf .leaf))))
def TB : BT IF := (.node 159 ir_159 (.node 80 ir_term_Each (.node 40 ir_syntax_Check (.node 20 ir_ref05_IsName TB0 TB1) (.node 62 ir_62 TB2 TB3)) (.node 121 ir_121 (.node 99 ir_lexis_IsSmall TB4 TB5) (.node 142 ir_lexis_capital TB6 TB7))) (.node 252 ir_252 (.node 205 ir_205 (.node 184 ir_184 TB8 TB9) (.node 230 ir_230 TB10 TB11)) (.node 303 ir_303 (.node 283 ir_283 TB12 TB13) (.node 353 ir_353 TB14 TB15))))
def TT : FuncId → Option IF := fun f => TB.find f
def HB : BT (List PV → Sto → Option (Out × Sto)) := (.node 187 (sortedH 234) (.node 29 (strH 70 5) (.node 27 (wsH 70 5) .leaf .leaf) (.node 165 (indexH) .leaf .leaf)) (.node 241 (cloneH 13) (.node 190 (cloneH 4) .leaf .leaf) .leaf))
def HH : Hook := fun f => HB.find f
theorem rF {n : FuncId} {fn : IF} {bars : List Nat} {args : List PV} {σ : Sto} (h1 : n < YB := by decide) (h2 : HH n = none := by kernel_rfl) (h3 : TT n = some fn := by kernel_rfl) (h4 : fn.mode ≠ 2 := by decide) (h5 : fn.mode ≠ 3 := by decide) (hl : args.length = fn.np := by rfl) : runV TT HH bars n args σ = callF TT HH fn bars args σ := runV_fn h1 h2 h3 h4 h5 bars args σ hl
section
variable (bars : List Nat) (a0 a1 a2 a3 a4 : PV) (σ : Sto)
@[simp] theorem lt_law11_LoadShows : n_law11_LoadShows < YB := by decide
@[simp] theorem lt_load_Show : n_load_Show < YB := by decide
@[simp] theorem lt_ref05_Formed : n_ref05_Formed < YB := by decide
@[simp] theorem lt_ref03_Proper : n_ref03_Proper < YB := by decide
@[simp] theorem lt_law11_awake : n_law11_awake < YB := by decide
@[simp] theorem lt_ref11_Show : n_ref11_Show < YB := by decide
@[simp] theorem lt_print_Text : n_print_Text < YB := by decide
@[simp] theorem lt_ref05_formed : n_ref05_formed < YB := by decide
@[simp] theorem lt_ref03_nodes : n_ref03_nodes < YB := by decide
@[simp] theorem lt_ref03_formed : n_ref03_formed < YB := by decide
@[simp] theorem lt_ref07_Printer_Text : n_ref07_Printer_Text < YB := by decide
@[simp] theorem lt_print_Raw : n_print_Raw < YB := by decide
@[simp] theorem lt_syntax_Text : n_syntax_Text < YB := by decide
@[simp] theorem lt_ref05_IsName : n_ref05_IsName < YB := by decide
@[simp] theorem lt_ref05_closed : n_ref05_closed < YB := by decide
@[simp] theorem lt_ref03_Split : n_ref03_Split < YB := by decide
@[simp] theorem lt_ref05_family : n_ref05_family < YB := by decide
@[simp] theorem lt_sign_Check : n_sign_Check < YB := by decide
@[simp] theorem lt_ref07_Printer_Raw : n_ref07_Printer_Raw < YB := by decide
@[simp] theorem lt_ref02_Text : n_ref02_Text < YB := by decide
@[simp] theorem lt_print_good : n_print_good < YB := by decide
@[simp] theorem lt_print_printer_scoped : n_print_printer_scoped < YB := by decide
@[simp] theorem lt_print_kept : n_print_kept < YB := by decide
@[simp] theorem lt_print_printer_raw : n_print_printer_raw < YB := by decide
@[simp] theorem lt_syntax_Check : n_syntax_Check < YB := by decide
@[simp] theorem lt_syntax_text : n_syntax_text < YB := by decide
@[simp] theorem lt_ref01_IsSmall : n_ref01_IsSmall < YB := by decide
@[simp] theorem lt_ref03_Constants : n_ref03_Constants < YB := by decide
@[simp] theorem lt_ref03_Free : n_ref03_Free < YB := by decide
@[simp] theorem lt_ref03_Metas : n_ref03_Metas < YB := by decide
@[simp] theorem lt_sign_each : n_sign_each < YB := by decide
@[simp] theorem lt_sign_formed : n_sign_formed < YB := by decide
@[simp] theorem lt_term_Free : n_term_Free < YB := by decide
@[simp] theorem lt_ref07_Printer_scoped : n_ref07_Printer_scoped < YB := by decide
@[simp] theorem lt_ref07_Printer_full : n_ref07_Printer_full < YB := by decide
@[simp] theorem lt_ref07_Printer_raw : n_ref07_Printer_raw < YB := by decide
@[simp] theorem lt_ref02_Well : n_ref02_Well < YB := by decide
@[simp] theorem lt_ref02_within : n_ref02_within < YB := by decide
@[simp] theorem lt_ref02_wide : n_ref02_wide < YB := by decide
@[simp] theorem lt_lexis_IsCapital : n_lexis_IsCapital < YB := by decide
@[simp] theorem lt_term_Check : n_term_Check < YB := by decide
@[simp] theorem lt_term_Each : n_term_Each < YB := by decide
@[simp] theorem lt_print_printer_scoped_1 : n_print_printer_scoped_1 < YB := by decide
@[simp] theorem lt_print_printer_head : n_print_printer_head < YB := by decide
@[simp] theorem lt_print_node : n_print_node < YB := by decide
@[simp] theorem lt_print_printer_pi : n_print_printer_pi < YB := by decide
@[simp] theorem lt_print_printer_name : n_print_printer_name < YB := by decide
@[simp] theorem lt_print_fold_api_Term_api_Raw : n_print_fold_api_Term_api_Raw < YB := by decide
@[simp] theorem lt_print_printer_raw_1 : n_print_printer_raw_1 < YB := by decide
@[simp] theorem lt_syntax_formed : n_syntax_formed < YB := by decide
@[simp] theorem lt_slices_Contains_of_int_int : n_slices_Contains_of_int_int < YB := by decide
@[simp] theorem lt_ref01_IsName : n_ref01_IsName < YB := by decide
@[simp] theorem lt_ref01_small : n_ref01_small < YB := by decide
@[simp] theorem lt_ref03_heads : n_ref03_heads < YB := by decide
@[simp] theorem lt_lexis_IsSmall : n_lexis_IsSmall < YB := by decide
@[simp] theorem lt_strconv_Itoa : n_strconv_Itoa < YB := by decide
@[simp] theorem lt_sign_each_1 : n_sign_each_1 < YB := by decide
@[simp] theorem lt_sign_name : n_sign_name < YB := by decide
@[simp] theorem lt_term_Domains : n_term_Domains < YB := by decide
@[simp] theorem lt_sign_formed_1 : n_sign_formed_1 < YB := by decide
@[simp] theorem lt_sign_kind : n_sign_kind < YB := by decide
@[simp] theorem lt_sign_target : n_sign_target < YB := by decide
@[simp] theorem lt_term_numbers : n_term_numbers < YB := by decide
@[simp] theorem lt_term_Free_1 : n_term_Free_1 < YB := by decide
@[simp] theorem lt_ref03_Occurs : n_ref03_Occurs < YB := by decide
@[simp] theorem lt_ref07_lowered : n_ref07_lowered < YB := by decide
@[simp] theorem lt_ref07_Printer_variable : n_ref07_Printer_variable < YB := by decide
@[simp] theorem lt_ref07_Printer_head : n_ref07_Printer_head < YB := by decide
@[simp] theorem lt_ref02_nodes : n_ref02_nodes < YB := by decide
@[simp] theorem lt_ref02_formed : n_ref02_formed < YB := by decide
@[simp] theorem lt_lexis_name : n_lexis_name < YB := by decide
@[simp] theorem lt_lexis_capital : n_lexis_capital < YB := by decide
@[simp] theorem lt_term_proper : n_term_proper < YB := by decide
@[simp] theorem lt_term_Under : n_term_Under < YB := by decide
@[simp] theorem lt_term_Occurs : n_term_Occurs < YB := by decide
@[simp] theorem lt_term_Moved : n_term_Moved < YB := by decide
@[simp] theorem lt_sign_Find : n_sign_Find < YB := by decide
@[simp] theorem lt_syntax_named : n_syntax_named < YB := by decide
@[simp] theorem lt_slices_Index_of_int_int : n_slices_Index_of_int_int < YB := by decide
@[simp] theorem lt_ref01_letter : n_ref01_letter < YB := by decide
@[simp] theorem lt_ref01_run : n_ref01_run < YB := by decide
@[simp] theorem lt_ref03_put : n_ref03_put < YB := by decide
@[simp] theorem lt_ref03_below : n_ref03_below < YB := by decide
@[simp] theorem lt_term_Map : n_term_Map < YB := by decide
@[simp] theorem lt_lexis_small : n_lexis_small < YB := by decide
@[simp] theorem lt_lexis_digit : n_lexis_digit < YB := by decide
@[simp] theorem lt_term_numbers_1 : n_term_numbers_1 < YB := by decide
@[simp] theorem lt_ref03_low : n_ref03_low < YB := by decide
@[simp] theorem lt_ref03_Shift : n_ref03_Shift < YB := by decide
@[simp] theorem lt_ref05_Find : n_ref05_Find < YB := by decide
@[simp] theorem lt_ref02_IsName : n_ref02_IsName < YB := by decide
@[simp] theorem lt_lexis_nameByte : n_lexis_nameByte < YB := by decide
@[simp] theorem lt_term_Moved_1 : n_term_Moved_1 < YB := by decide
@[simp] theorem lt_ref01_byteOf : n_ref01_byteOf < YB := by decide
@[simp] theorem lt_ref03_moved : n_ref03_moved < YB := by decide
theorem eq_law11_LoadShows : runV TT HH bars n_law11_LoadShows [a0,a1] σ = callF TT HH ir_law11_LoadShows bars [a0,a1] σ := rF
theorem eq_load_Show : runV TT HH bars n_load_Show [a0,a1] σ = callF TT HH ir_load_Show bars [a0,a1] σ := rF
theorem eq_ref05_Formed : runV TT HH bars n_ref05_Formed [a0] σ = callF TT HH ir_ref05_Formed bars [a0] σ := rF
theorem eq_ref03_Proper : runV TT HH bars n_ref03_Proper [a0] σ = callF TT HH ir_ref03_Proper bars [a0] σ := rF
theorem eq_ref11_Show : runV TT HH bars n_ref11_Show [a0,a1] σ = callF TT HH ir_ref11_Show bars [a0,a1] σ := rF
theorem eq_print_Text : runV TT HH bars n_print_Text [a0,a1,a2,a3] σ = callF TT HH ir_print_Text bars [a0,a1,a2,a3] σ := rF
theorem eq_ref05_formed : runV TT HH bars n_ref05_formed [a0,a1] σ = callF TT HH ir_ref05_formed bars [a0,a1] σ := rF
theorem eq_ref03_nodes : runV TT HH bars n_ref03_nodes [a0,a1] σ = callF TT HH ir_ref03_nodes bars [a0,a1] σ := rF
theorem eq_ref03_formed : runV TT HH bars n_ref03_formed [a0,a1] σ = callF TT HH ir_ref03_formed bars [a0,a1] σ := rF
theorem eq_ref07_Printer_Text : runV TT HH bars n_ref07_Printer_Text [a0,a1,a2] σ = callF TT HH ir_ref07_Printer_Text bars [a0,a1,a2] σ := rF
theorem eq_print_Raw : runV TT HH bars n_print_Raw [a0,a1,a2,a3] σ = callF TT HH ir_print_Raw bars [a0,a1,a2,a3] σ := rF
theorem eq_syntax_Text : runV TT HH bars n_syntax_Text [a0] σ = callF TT HH ir_syntax_Text bars [a0] σ := rF
theorem eq_ref05_IsName : runV TT HH bars n_ref05_IsName [a0] σ = callF TT HH ir_ref05_IsName bars [a0] σ := rF
theorem eq_ref05_closed : runV TT HH bars n_ref05_closed [a0,a1] σ = callF TT HH ir_ref05_closed bars [a0,a1] σ := rF
theorem eq_ref03_Split : runV TT HH bars n_ref03_Split [a0] σ = callF TT HH ir_ref03_Split bars [a0] σ := rF
theorem eq_ref05_family : runV TT HH bars n_ref05_family [a0,a1] σ = callF TT HH ir_ref05_family bars [a0,a1] σ := rF
theorem eq_sign_Check : runV TT HH bars n_sign_Check [a0] σ = callF TT HH ir_sign_Check bars [a0] σ := rF
theorem eq_ref07_Printer_Raw : runV TT HH bars n_ref07_Printer_Raw [a0,a1,a2] σ = callF TT HH ir_ref07_Printer_Raw bars [a0,a1,a2] σ := rF
theorem eq_ref02_Text : runV TT HH bars n_ref02_Text [a0] σ = callF TT HH ir_ref02_Text bars [a0] σ := rF
theorem eq_print_good : runV TT HH bars n_print_good [a0,a1,a2] σ = callF TT HH ir_print_good bars [a0,a1,a2] σ := rF
theorem eq_print_printer_scoped : runV TT HH bars n_print_printer_scoped [a0,a1,a2] σ = callF TT HH ir_print_printer_scoped bars [a0,a1,a2] σ := rF
theorem eq_print_kept : runV TT HH bars n_print_kept [a0,a1] σ = callF TT HH ir_print_kept bars [a0,a1] σ := rF
theorem eq_print_printer_raw : runV TT HH bars n_print_printer_raw [a0,a1,a2] σ = callF TT HH ir_print_printer_raw bars [a0,a1,a2] σ := rF
theorem eq_syntax_Check : runV TT HH bars n_syntax_Check [a0] σ = callF TT HH ir_syntax_Check bars [a0] σ := rF
theorem eq_syntax_text : runV TT HH bars n_syntax_text [a0,a1] σ = callF TT HH ir_syntax_text bars [a0,a1] σ := rF
theorem eq_ref01_IsSmall : runV TT HH bars n_ref01_IsSmall [a0] σ = callF TT HH ir_ref01_IsSmall bars [a0] σ := rF
theorem eq_ref03_Constants : runV TT HH bars n_ref03_Constants [a0] σ = callF TT HH ir_ref03_Constants bars [a0] σ := rF
theorem eq_ref03_Free : runV TT HH bars n_ref03_Free [a0] σ = callF TT HH ir_ref03_Free bars [a0] σ := rF
theorem eq_ref03_Metas : runV TT HH bars n_ref03_Metas [a0] σ = callF TT HH ir_ref03_Metas bars [a0] σ := rF
theorem eq_sign_each : runV TT HH bars n_sign_each [a0] σ = callF TT HH ir_sign_each bars [a0] σ := rF
theorem eq_sign_formed : runV TT HH bars n_sign_formed [a0,a1] σ = callF TT HH ir_sign_formed bars [a0,a1] σ := rF
theorem eq_term_Free : runV TT HH bars n_term_Free [a0] σ = callF TT HH ir_term_Free bars [a0] σ := rF
theorem eq_ref07_Printer_scoped : runV TT HH bars n_ref07_Printer_scoped [a0,a1,a2] σ = callF TT HH ir_ref07_Printer_scoped bars [a0,a1,a2] σ := rF
theorem eq_ref07_Printer_full : runV TT HH bars n_ref07_Printer_full [a0,a1] σ = callF TT HH ir_ref07_Printer_full bars [a0,a1] σ := rF
theorem eq_ref07_Printer_raw : runV TT HH bars n_ref07_Printer_raw [a0,a1,a2] σ = callF TT HH ir_ref07_Printer_raw bars [a0,a1,a2] σ := rF
theorem eq_ref02_Well : runV TT HH bars n_ref02_Well [a0] σ = callF TT HH ir_ref02_Well bars [a0] σ := rF
theorem eq_ref02_within : runV TT HH bars n_ref02_within [a0,a1] σ = callF TT HH ir_ref02_within bars [a0,a1] σ := rF
theorem eq_ref02_wide : runV TT HH bars n_ref02_wide [a0] σ = callF TT HH ir_ref02_wide bars [a0] σ := rF
theorem eq_lexis_IsCapital : runV TT HH bars n_lexis_IsCapital [a0] σ = callF TT HH ir_lexis_IsCapital bars [a0] σ := rF
theorem eq_term_Check : runV TT HH bars n_term_Check [a0] σ = callF TT HH ir_term_Check bars [a0] σ := rF
theorem eq_term_Each : runV TT HH bars n_term_Each [a0,a1,a2] σ = callF TT HH ir_term_Each bars [a0,a1,a2] σ := rF
theorem eq_print_printer_scoped_1 : runV TT HH bars n_print_printer_scoped_1 [a0,a1,a2,a3,a4] σ = callF TT HH ir_print_printer_scoped_1 bars [a0,a1,a2,a3,a4] σ := rF
theorem eq_print_printer_head : runV TT HH bars n_print_printer_head [a0,a1,a2] σ = callF TT HH ir_print_printer_head bars [a0,a1,a2] σ := rF
theorem eq_print_node : runV TT HH bars n_print_node [a0,a1,a2] σ = callF TT HH ir_print_node bars [a0,a1,a2] σ := rF
theorem eq_print_printer_pi : runV TT HH bars n_print_printer_pi [a0,a1,a2] σ = callF TT HH ir_print_printer_pi bars [a0,a1,a2] σ := rF
theorem eq_print_printer_name : runV TT HH bars n_print_printer_name [a0,a1] σ = callF TT HH ir_print_printer_name bars [a0,a1] σ := rF
theorem eq_print_fold_api_Term_api_Raw : runV TT HH bars n_print_fold_api_Term_api_Raw [a0,a1,a2] σ = callF TT HH ir_print_fold_api_Term_api_Raw bars [a0,a1,a2] σ := rF
theorem eq_print_printer_raw_1 : runV TT HH bars n_print_printer_raw_1 [a0,a1,a2,a3] σ = callF TT HH ir_print_printer_raw_1 bars [a0,a1,a2,a3] σ := rF
theorem eq_syntax_formed : runV TT HH bars n_syntax_formed [a0,a1,a2] σ = callF TT HH ir_syntax_formed bars [a0,a1,a2] σ := rF
theorem eq_slices_Contains_of_int_int : runV TT HH bars n_slices_Contains_of_int_int [a0,a1] σ = callF TT HH ir_slices_Contains_of_int_int bars [a0,a1] σ := rF
theorem eq_ref01_IsName : runV TT HH bars n_ref01_IsName [a0] σ = callF TT HH ir_ref01_IsName bars [a0] σ := rF
theorem eq_ref01_small : runV TT HH bars n_ref01_small [a0] σ = callF TT HH ir_ref01_small bars [a0] σ := rF
theorem eq_ref03_heads : runV TT HH bars n_ref03_heads [a0,a1,a2,a3] σ = callF TT HH ir_ref03_heads bars [a0,a1,a2,a3] σ := rF
theorem eq_lexis_IsSmall : runV TT HH bars n_lexis_IsSmall [a0] σ = callF TT HH ir_lexis_IsSmall bars [a0] σ := rF
theorem eq_sign_each_1 : runV TT HH bars n_sign_each_1 [a0,a1] σ = callF TT HH ir_sign_each_1 bars [a0,a1] σ := rF
theorem eq_sign_name : runV TT HH bars n_sign_name [a0] σ = callF TT HH ir_sign_name bars [a0] σ := rF
theorem eq_term_Domains : runV TT HH bars n_term_Domains [a0] σ = callF TT HH ir_term_Domains bars [a0] σ := rF
theorem eq_sign_formed_1 : runV TT HH bars n_sign_formed_1 [a0,a1,a2,a3] σ = callF TT HH ir_sign_formed_1 bars [a0,a1,a2,a3] σ := rF
theorem eq_sign_kind : runV TT HH bars n_sign_kind [a0] σ = callF TT HH ir_sign_kind bars [a0] σ := rF
theorem eq_sign_target : runV TT HH bars n_sign_target [a0] σ = callF TT HH ir_sign_target bars [a0] σ := rF
theorem eq_term_numbers : runV TT HH bars n_term_numbers [a0,a1] σ = callF TT HH ir_term_numbers bars [a0,a1] σ := rF
theorem eq_term_Free_1 : runV TT HH bars n_term_Free_1 [a0,a1] σ = callF TT HH ir_term_Free_1 bars [a0,a1] σ := rF
theorem eq_ref03_Occurs : runV TT HH bars n_ref03_Occurs [a0,a1] σ = callF TT HH ir_ref03_Occurs bars [a0,a1] σ := rF
theorem eq_ref07_lowered : runV TT HH bars n_ref07_lowered [a0] σ = callF TT HH ir_ref07_lowered bars [a0] σ := rF
theorem eq_ref07_Printer_variable : runV TT HH bars n_ref07_Printer_variable [a0,a1] σ = callF TT HH ir_ref07_Printer_variable bars [a0,a1] σ := rF
theorem eq_ref07_Printer_head : runV TT HH bars n_ref07_Printer_head [a0,a1,a2] σ = callF TT HH ir_ref07_Printer_head bars [a0,a1,a2] σ := rF
theorem eq_ref02_nodes : runV TT HH bars n_ref02_nodes [a0,a1] σ = callF TT HH ir_ref02_nodes bars [a0,a1] σ := rF
theorem eq_ref02_formed : runV TT HH bars n_ref02_formed [a0,a1] σ = callF TT HH ir_ref02_formed bars [a0,a1] σ := rF
theorem eq_lexis_name : runV TT HH bars n_lexis_name [a0,a1] σ = callF TT HH ir_lexis_name bars [a0,a1] σ := rF
theorem eq_lexis_capital : runV TT HH bars n_lexis_capital [a0] σ = callF TT HH ir_lexis_capital bars [a0] σ := rF
theorem eq_term_proper : runV TT HH bars n_term_proper [a0,a1,a2] σ = callF TT HH ir_term_proper bars [a0,a1,a2] σ := rF
theorem eq_term_Under : runV TT HH bars n_term_Under [a0,a1] σ = callF TT HH ir_term_Under bars [a0,a1] σ := rF
theorem eq_term_Occurs : runV TT HH bars n_term_Occurs [a0,a1] σ = callF TT HH ir_term_Occurs bars [a0,a1] σ := rF
theorem eq_term_Moved : runV TT HH bars n_term_Moved [a0,a1,a2] σ = callF TT HH ir_term_Moved bars [a0,a1,a2] σ := rF
theorem eq_sign_Find : runV TT HH bars n_sign_Find [a0,a1] σ = callF TT HH ir_sign_Find bars [a0,a1] σ := rF
theorem eq_syntax_named : runV TT HH bars n_syntax_named [a0] σ = callF TT HH ir_syntax_named bars [a0] σ := rF
theorem eq_slices_Index_of_int_int : runV TT HH bars n_slices_Index_of_int_int [a0,a1] σ = callF TT HH ir_slices_Index_of_int_int bars [a0,a1] σ := rF
theorem eq_ref01_letter : runV TT HH bars n_ref01_letter [a0] σ = callF TT HH ir_ref01_letter bars [a0] σ := rF
theorem eq_ref01_run : runV TT HH bars n_ref01_run [a0,a1] σ = callF TT HH ir_ref01_run bars [a0,a1] σ := rF
theorem eq_ref03_put : runV TT HH bars n_ref03_put [a0,a1] σ = callF TT HH ir_ref03_put bars [a0,a1] σ := rF
theorem eq_ref03_below : runV TT HH bars n_ref03_below [a0,a1] σ = callF TT HH ir_ref03_below bars [a0,a1] σ := rF
theorem eq_term_Map : runV TT HH bars n_term_Map [a0,a1,a2] σ = callF TT HH ir_term_Map bars [a0,a1,a2] σ := rF
theorem eq_lexis_small : runV TT HH bars n_lexis_small [a0] σ = callF TT HH ir_lexis_small bars [a0] σ := rF
theorem eq_lexis_digit : runV TT HH bars n_lexis_digit [a0] σ = callF TT HH ir_lexis_digit bars [a0] σ := rF
theorem eq_term_numbers_1 : runV TT HH bars n_term_numbers_1 [a0,a1,a2,a3] σ = callF TT HH ir_term_numbers_1 bars [a0,a1,a2,a3] σ := rF
theorem eq_ref03_low : runV TT HH bars n_ref03_low [a0,a1,a2] σ = callF TT HH ir_ref03_low bars [a0,a1,a2] σ := rF
theorem eq_ref03_Shift : runV TT HH bars n_ref03_Shift [a0,a1,a2] σ = callF TT HH ir_ref03_Shift bars [a0,a1,a2] σ := rF
theorem eq_ref05_Find : runV TT HH bars n_ref05_Find [a0,a1] σ = callF TT HH ir_ref05_Find bars [a0,a1] σ := rF
theorem eq_ref02_IsName : runV TT HH bars n_ref02_IsName [a0] σ = callF TT HH ir_ref02_IsName bars [a0] σ := rF
theorem eq_lexis_nameByte : runV TT HH bars n_lexis_nameByte [a0] σ = callF TT HH ir_lexis_nameByte bars [a0] σ := rF
theorem eq_term_Moved_1 : runV TT HH bars n_term_Moved_1 [a0,a1,a2,a3] σ = callF TT HH ir_term_Moved_1 bars [a0,a1,a2,a3] σ := rF
theorem eq_ref01_byteOf : runV TT HH bars n_ref01_byteOf [a0] σ = callF TT HH ir_ref01_byteOf bars [a0] σ := rF
theorem eq_ref03_moved : runV TT HH bars n_ref03_moved [a0,a1,a2] σ = callF TT HH ir_ref03_moved bars [a0,a1,a2] σ := rF
end
theorem TB0_ok : TB0.all (chkF Go.Proofs.Tryz.prog) = true := by kernel_rfl
theorem TB1_ok : TB1.all (chkF Go.Proofs.Tryz.prog) = true := by kernel_rfl
theorem TB2_ok : TB2.all (chkF Go.Proofs.Tryz.prog) = true := by kernel_rfl
theorem TB3_ok : TB3.all (chkF Go.Proofs.Tryz.prog) = true := by kernel_rfl
theorem TB4_ok : TB4.all (chkF Go.Proofs.Tryz.prog) = true := by kernel_rfl
theorem TB5_ok : TB5.all (chkF Go.Proofs.Tryz.prog) = true := by kernel_rfl
theorem TB6_ok : TB6.all (chkF Go.Proofs.Tryz.prog) = true := by kernel_rfl
theorem TB7_ok : TB7.all (chkF Go.Proofs.Tryz.prog) = true := by kernel_rfl
theorem TB8_ok : TB8.all (chkF Go.Proofs.Tryz.prog) = true := by kernel_rfl
theorem TB9_ok : TB9.all (chkF Go.Proofs.Tryz.prog) = true := by kernel_rfl
theorem TB10_ok : TB10.all (chkF Go.Proofs.Tryz.prog) = true := by kernel_rfl
theorem TB11_ok : TB11.all (chkF Go.Proofs.Tryz.prog) = true := by kernel_rfl
theorem TB12_ok : TB12.all (chkF Go.Proofs.Tryz.prog) = true := by kernel_rfl
theorem TB13_ok : TB13.all (chkF Go.Proofs.Tryz.prog) = true := by kernel_rfl
theorem TB14_ok : TB14.all (chkF Go.Proofs.Tryz.prog) = true := by kernel_rfl
theorem TB15_ok : TB15.all (chkF Go.Proofs.Tryz.prog) = true := by kernel_rfl
theorem TB_ok : TB.all (chkF Go.Proofs.Tryz.prog) = true := (BT.all_node (by kernel_rfl) (BT.all_node (by kernel_rfl) (BT.all_node (by kernel_rfl) (BT.all_node (by kernel_rfl) TB0_ok TB1_ok) (BT.all_node (by kernel_rfl) TB2_ok TB3_ok)) (BT.all_node (by kernel_rfl) (BT.all_node (by kernel_rfl) TB4_ok TB5_ok) (BT.all_node (by kernel_rfl) TB6_ok TB7_ok))) (BT.all_node (by kernel_rfl) (BT.all_node (by kernel_rfl) (BT.all_node (by kernel_rfl) TB8_ok TB9_ok) (BT.all_node (by kernel_rfl) TB10_ok TB11_ok)) (BT.all_node (by kernel_rfl) (BT.all_node (by kernel_rfl) TB12_ok TB13_ok) (BT.all_node (by kernel_rfl) TB14_ok TB15_ok))))
theorem TT_ok (f : FuncId) (fn : IF) (h : TT f = some fn) : chkF Go.Proofs.Tryz.prog f fn = true := BT.all_find (p := chkF Go.Proofs.Tryz.prog) TB_ok h
theorem hook_190 (args : List PV) (σ : Sto) (r : Out × Sto) (hr : cloneH 4 args σ = some r) : callable Go.Proofs.Tryz.prog 190 ∧ ∀ bars κ w (xs : Array Value),@INV (CR Go.Proofs.Tryz.prog) bars κ σ w → RelL κ args xs.toList → below.belowAll σ.length args = true → Calls Go.Proofs.Tryz.prog 190 xs w (@CallPost (CR Go.Proofs.Tryz.prog) bars κ σ w r) :=
 cloneH_ok (zero := [(.i 0),(.i 0),(.i 0),(.sl true [])]) (by kernel_rfl) rfl (by decide) args σ r hr
theorem hook_241 (args : List PV) (σ : Sto) (r : Out × Sto) (hr : cloneH 13 args σ = some r) : callable Go.Proofs.Tryz.prog 241 ∧ ∀ bars κ w (xs : Array Value),@INV (CR Go.Proofs.Tryz.prog) bars κ σ w → RelL κ args xs.toList → below.belowAll σ.length args = true → Calls Go.Proofs.Tryz.prog 241 xs w (@CallPost (CR Go.Proofs.Tryz.prog) bars κ σ w r) :=
 cloneH_ok (zero := [(.sl true []),(.i 0),(.i 0),(.i 0),(.sl true []),(.i 0),(.i 0),(.i 0),(.sl true []),(.i 0),(.i 0),(.i 0),(.sl true [])]) (by kernel_rfl) rfl (by decide) args σ r hr
theorem HH_ok : @HookOK (CR Go.Proofs.Tryz.prog) Go.Proofs.Tryz.prog HH := by
 intro f h hh
 have hm := BT.find_mem hh
 simp only [HB,BT.toList,List.nil_append,List.append_nil,List.cons_append,List.mem_cons,List.not_mem_nil,or_false,Prod.mk.injEq] at hm
 rcases hm with ⟨rfl,rfl⟩ | ⟨rfl,rfl⟩ | ⟨rfl,rfl⟩ | ⟨rfl,rfl⟩ | ⟨rfl,rfl⟩ | ⟨rfl,rfl⟩
 ·exact sorted_tryz
 ·exact str_tryz
 ·exact ws_tryz
 ·exact index_tryz
 ·exact hook_241
 ·exact hook_190
theorem R_ok : @CallsOK (CR Go.Proofs.Tryz.prog) Go.Proofs.Tryz.prog (runV TT HH) := @runV_sound (CR Go.Proofs.Tryz.prog) Go.Proofs.Tryz.prog (fun _ _ _ => Iff.rfl) TT TT_ok HH HH_ok
end Go.Ev

