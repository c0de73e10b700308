/- FnExactEditHello: whatever the input, the law returns true and each argument reads behind the call as it read before; no condition. -/
import Derived.Test.YtijojkfdbpiimaaRows
import Derived.Test.YtijojkfdbpiimaaGBN50
import Derived.Test.YtijojkfdbpiimaaVmX
import Derived.ProofKit
set_option maxHeartbeats 4000000
set_option maxRecDepth 10000
set_option linter.unusedVariables false
set_option linter.unusedSimpArgs false
namespace Go.Proofs.Ytijojkfdbpiimaa
open Go.ChangeShapes Go.WideShapes Go.ChangeAt Go.RowKit Go.Vm
def fnIds : List (Nat × Nat) := [(2, 2), (3, 24), (4, 25), (5, 31), (6, 33), (7, 39), (8, 41), (9, 50), (10, 70), (11, 143), (12, 72), (13, 144), (14, 74), (15, 145), (16, 146), (17, 108), (18, 159), (19, 90), (20, 89), (21, 83), (22, 162), (23, 85), (24, 163), (25, 79), (26, 78), (27, 1081), (28, 1080), (29, 125), (30, 176), (31, 174), (32, 59), (33, 113), (34, 131), (35, 177), (36, 178), (37, 179), (38, 180), (39, 181), (40, 182), (41, 104), (42, 102), (43, 190), (44, 186), (45, 171), (46, 167), (47, 191), (48, 165), (49, 164), (50, 77), (51, 209), (52, 155), (53, 117), (54, 82), (55, 227), (56, 282), (57, 71), (58, 230), (59, 283), (60, 120), (61, 76), (62, 114), (63, 73), (64, 232), (65, 284), (66, 121), (67, 246), (68, 3300), (69, 3252), (70, 237), (71, 228), (72, 197), (73, 142), (74, 293), (75, 199), (76, 294), (77, 304), (78, 200), (79, 1201), (80, 3312), (81, 3251), (82, 69), (83, 310), (84, 299), (85, 264), (86, 311), (87, 302), (88, 255), (89, 258), (90, 229), (91, 273), (92, 188), (93, 3313), (94, 3250), (95, 261), (96, 243), (97, 244), (98, 57), (99, 3315), (100, 3316), (101, 185), (102, 3317), (103, 3249), (104, 287), (105, 305), (106, 285), (107, 279), (108, 323), (109, 324), (110, 296), (111, 295), (112, 271), (113, 262), (114, 263), (115, 265), (116, 266), (117, 236), (118, 231), (119, 268), (120, 234), (121, 235), (122, 233), (123, 269), (124, 3353), (125, 319), (126, 257), (127, 320), (128, 355), (129, 321), (130, 3360), (131, 3247), (132, 358), (133, 288), (134, 359), (135, 354), (136, 290), (137, 350), (138, 291), (139, 343), (140, 68), (141, 3248), (142, 3344), (143, 3361), (144, 345), (145, 362), (146, 307), (147, 280), (148, 286), (149, 2346), (150, 347), (151, 348), (152, 341), (153, 336), (154, 340), (155, 349), (156, 351), (157, 352), (158, 2378), (159, 379), (160, 377), (161, 2385), (162, 386), (163, 387), (164, 388), (165, 389), (166, 390), (167, 391), (168, 392), (169, 393), (170, 394), (171, 395), (172, 396), (173, 397), (174, 398), (175, 399), (176, 400), (177, 401), (178, 402)]
def sid (g : Nat) : Nat := ((fnIds.find? fun p => p.2 == g).map (·.1)).getD 0
theorem sid_ok : ∀ p ∈ fnIds, sid p.2 = p.1 := by decide +kernel
theorem own : ownKnob Try.prog.godebug = none := by kernel_rfl
theorem laidOut : laidOutB Try.prog = true := by kernel_rfl
def laysSort_ren : Go.Shelf.Ren := ⟨fun | 189 => 149 | 125 => 159 | 257 => 158 | 128 => 170 | 129 => 171 | 294 => 161 | 295 => 162 | 296 => 163 | 297 => 164 | 298 => 165 | 299 => 166 | 216 => 167 | 300 => 168 | 301 => 169 | 328 => 172 | 329 => 173 | 330 => 174 | 331 => 175 | 332 => 176 | 215 => 177 | 343 => 178 | n => n, fun | 28 => 33 | 3 => 3 | 46 => 137 | 0 => 0 | 51 => 150 | 53 => 152 | 4 => 4 | 183 => 143 | 182 => 142 | 131 => 147 | 5 => 5 | 9 => 9 | 218 => 153 | 222 => 157 | 228 => 159 | 229 => 160 | n => n, fun | n => n⟩
theorem laysSort : Go.Proofs.Lays.n189 Try.prog laysSort_ren := {
 mixed := by kernel_rfl
 f125 := Try.func159.trans (congrArg some (by kernel_rfl))
 f128 := Try.func170.trans (congrArg some (by kernel_rfl))
 f129 := Try.func171.trans (congrArg some (by kernel_rfl))
 f189 := Try.func149.trans (congrArg some (by kernel_rfl))
 f215 := Try.func177.trans (congrArg some (by kernel_rfl))
 f216 := Try.func167.trans (congrArg some (by kernel_rfl))
 f257 := Try.func158.trans (congrArg some (by kernel_rfl))
 f294 := Try.func161.trans (congrArg some (by kernel_rfl))
 f295 := Try.func162.trans (congrArg some (by kernel_rfl))
 f296 := Try.func163.trans (congrArg some (by kernel_rfl))
 f297 := Try.func164.trans (congrArg some (by kernel_rfl))
 f298 := Try.func165.trans (congrArg some (by kernel_rfl))
 f299 := Try.func166.trans (congrArg some (by kernel_rfl))
 f300 := Try.func168.trans (congrArg some (by kernel_rfl))
 f301 := Try.func169.trans (congrArg some (by kernel_rfl))
 f328 := Try.func172.trans (congrArg some (by kernel_rfl))
 f329 := Try.func173.trans (congrArg some (by kernel_rfl))
 f330 := Try.func174.trans (congrArg some (by kernel_rfl))
 f331 := Try.func175.trans (congrArg some (by kernel_rfl))
 f332 := Try.func176.trans (congrArg some (by kernel_rfl))
 f343 := Try.func178.trans (congrArg some (by kernel_rfl))
 t0 := Try.underlying0
 a0 := Try.isAgg0
 z0 := Try.sizeOf0
 v0 := Try.zeroValue0
 t3 := Try.underlying3
 a3 := Try.isAgg3
 z3 := Try.sizeOf3
 v3 := Try.zeroValue3
 t4 := Try.underlying4
 a4 := Try.isAgg4
 z4 := Try.sizeOf4
 v4 := Try.zeroValue4
 t5 := Try.underlying5
 a5 := Try.isAgg5
 z5 := Try.sizeOf5
 v5 := Try.zeroValue5
 t9 := Try.underlying9
 a9 := Try.isAgg9
 z9 := Try.sizeOf9
 v9 := Try.zeroValue9
 t28 := Try.underlying33
 a28 := Try.isAgg33
 z28 := Try.sizeOf33
 v28 := Try.zeroValue33
 t46 := Try.underlying137
 a46 := Try.isAgg137
 z46 := Try.sizeOf137
 v46 := Try.zeroValue137
 t51 := Try.underlying150
 a51 := Try.isAgg150
 z51 := Try.sizeOf150
 v51 := Try.zeroValue150
 t53 := Try.underlying152
 a53 := Try.isAgg152
 z53 := Try.sizeOf152
 v53 := Try.zeroValue152
 t131 := Try.underlying147
 a131 := Try.isAgg147
 z131 := Try.sizeOf147
 v131 := Try.zeroValue147
 t182 := Try.underlying142
 a182 := Try.isAgg142
 z182 := Try.sizeOf142
 v182 := Try.zeroValue142
 t183 := Try.underlying143
 a183 := Try.isAgg143
 z183 := Try.sizeOf143
 v183 := Try.zeroValue143
 t218 := Try.underlying153
 a218 := Try.isAgg153
 z218 := Try.sizeOf153
 v218 := Try.zeroValue153
 t222 := Try.underlying157
 a222 := Try.isAgg157
 z222 := Try.sizeOf157
 v222 := Try.zeroValue157
 t228 := Try.underlying159
 a228 := Try.isAgg159
 z228 := Try.sizeOf159
 v228 := Try.zeroValue159
 t229 := Try.underlying160
 a229 := Try.isAgg160
 z229 := Try.sizeOf160
 v229 := Try.zeroValue160 }
theorem good_1080 : Go.Vm.Good Try.prog sid (fun f => fnIds.lookup f) (1080, ir1080) := .inl ⟨rfl, Try.f28, [.mrow, .val], Try.func28, by kernel_rfl, by kernel_rfl⟩
theorem good_1201 : Go.Vm.Good Try.prog sid (fun f => fnIds.lookup f) (1201, ir1201) := .inl ⟨rfl, Try.f79, [.mrow, .val], Try.func79, by kernel_rfl, by kernel_rfl⟩
theorem good_1081 : Go.Vm.Good Try.prog sid (fun f => fnIds.lookup f) (1081, ir1081) := .inl ⟨rfl, Try.f27, [.mrow, .val], Try.func27, by kernel_rfl, by kernel_rfl⟩
theorem good_232 : Go.Vm.Good Try.prog sid (fun f => fnIds.lookup f) (232, ir232) := .inl ⟨rfl, Try.f64, [], Try.func64, by kernel_rfl, by kernel_rfl⟩
theorem good_377 : Go.Vm.Good Try.prog sid (fun f => fnIds.lookup f) (377, ir377) := .inl ⟨rfl, Try.f160, [], Try.func160, by kernel_rfl, by kernel_rfl⟩
theorem good_336 : Go.Vm.Good Try.prog sid (fun f => fnIds.lookup f) (336, ir336) := .inl ⟨rfl, Try.f153, [], Try.func153, by kernel_rfl, by kernel_rfl⟩
theorem good_340 : Go.Vm.Good Try.prog sid (fun f => fnIds.lookup f) (340, ir340) := .inl ⟨rfl, Try.f154, [], Try.func154, by kernel_rfl, by kernel_rfl⟩
theorem good_233 : Go.Vm.Good Try.prog sid (fun f => fnIds.lookup f) (233, ir233) := .inl ⟨rfl, Try.f122, [], Try.func122, by kernel_rfl, by kernel_rfl⟩
theorem good_230 : Go.Vm.Good Try.prog sid (fun f => fnIds.lookup f) (230, ir230) := .inl ⟨rfl, Try.f58, [], Try.func58, by kernel_rfl, by kernel_rfl⟩
theorem good_231 : Go.Vm.Good Try.prog sid (fun f => fnIds.lookup f) (231, ir231) := .inl ⟨rfl, Try.f118, [], Try.func118, by kernel_rfl, by kernel_rfl⟩
theorem good_286 : Go.Vm.Good Try.prog sid (fun f => fnIds.lookup f) (286, ir286) := .inl ⟨rfl, Try.f148, [], Try.func148, by kernel_rfl, by kernel_rfl⟩
theorem good_271 : Go.Vm.Good Try.prog sid (fun f => fnIds.lookup f) (271, ir271) := .inl ⟨rfl, Try.f112, [], Try.func112, by kernel_rfl, by kernel_rfl⟩
theorem good_351 : Go.Vm.Good Try.prog sid (fun f => fnIds.lookup f) (351, ir351) := .inl ⟨rfl, Try.f156, [], Try.func156, by kernel_rfl, by kernel_rfl⟩
theorem good_352 : Go.Vm.Good Try.prog sid (fun f => fnIds.lookup f) (352, ir352) := .inl ⟨rfl, Try.f157, [], Try.func157, by kernel_rfl, by kernel_rfl⟩
theorem good_290 : Go.Vm.Good Try.prog sid (fun f => fnIds.lookup f) (290, ir290) := .inl ⟨rfl, Try.f136, [], Try.func136, by kernel_rfl, by kernel_rfl⟩
theorem good_258 : Go.Vm.Good Try.prog sid (fun f => fnIds.lookup f) (258, ir258) := .inl ⟨rfl, Try.f89, [], Try.func89, by kernel_rfl, by kernel_rfl⟩
theorem good_264 : Go.Vm.Good Try.prog sid (fun f => fnIds.lookup f) (264, ir264) := .inl ⟨rfl, Try.f85, [], Try.func85, by kernel_rfl, by kernel_rfl⟩
theorem good_347 : Go.Vm.Good Try.prog sid (fun f => fnIds.lookup f) (347, ir347) := .inl ⟨rfl, Try.f150, [], Try.func150, by kernel_rfl, by kernel_rfl⟩
theorem good_266 : Go.Vm.Good Try.prog sid (fun f => fnIds.lookup f) (266, ir266) := .inl ⟨rfl, Try.f116, [], Try.func116, by kernel_rfl, by kernel_rfl⟩
theorem good_261 : Go.Vm.Good Try.prog sid (fun f => fnIds.lookup f) (261, ir261) := .inl ⟨rfl, Try.f95, [], Try.func95, by kernel_rfl, by kernel_rfl⟩
theorem good_257 : Go.Vm.Good Try.prog sid (fun f => fnIds.lookup f) (257, ir257) := .inl ⟨rfl, Try.f126, [], Try.func126, by kernel_rfl, by kernel_rfl⟩
theorem good_255 : Go.Vm.Good Try.prog sid (fun f => fnIds.lookup f) (255, ir255) := .inl ⟨rfl, Try.f88, [], Try.func88, by kernel_rfl, by kernel_rfl⟩
theorem good_285 : Go.Vm.Good Try.prog sid (fun f => fnIds.lookup f) (285, ir285) := .inl ⟨rfl, Try.f106, [], Try.func106, by kernel_rfl, by kernel_rfl⟩
theorem good_354 : Go.Vm.Good Try.prog sid (fun f => fnIds.lookup f) (354, ir354) := .inl ⟨rfl, Try.f135, [], Try.func135, by kernel_rfl, by kernel_rfl⟩
theorem good_302 : Go.Vm.Good Try.prog sid (fun f => fnIds.lookup f) (302, ir302) := .inl ⟨rfl, Try.f87, [], Try.func87, by kernel_rfl, by kernel_rfl⟩
theorem good_287 : Go.Vm.Good Try.prog sid (fun f => fnIds.lookup f) (287, ir287) := .inl ⟨rfl, Try.f104, [], Try.func104, by kernel_rfl, by kernel_rfl⟩
theorem good_362 : Go.Vm.Good Try.prog sid (fun f => fnIds.lookup f) (362, ir362) := .inl ⟨rfl, Try.f145, [], Try.func145, by kernel_rfl, by kernel_rfl⟩
theorem good_262 : Go.Vm.Good Try.prog sid (fun f => fnIds.lookup f) (262, ir262) := .inl ⟨rfl, Try.f113, [], Try.func113, by kernel_rfl, by kernel_rfl⟩
theorem good_2346 : Go.Vm.Good Try.prog sid (fun f => fnIds.lookup f) (2346, ir2346) := sort_seat laysSort rfl (by kernel_rfl)
theorem good_263 : Go.Vm.Good Try.prog sid (fun f => fnIds.lookup f) (263, ir263) := .inl ⟨rfl, Try.f114, [], Try.func114, by kernel_rfl, by kernel_rfl⟩
theorem good_265 : Go.Vm.Good Try.prog sid (fun f => fnIds.lookup f) (265, ir265) := .inl ⟨rfl, Try.f115, [], Try.func115, by kernel_rfl, by kernel_rfl⟩
theorem good_296 : Go.Vm.Good Try.prog sid (fun f => fnIds.lookup f) (296, ir296) := .inl ⟨rfl, Try.f110, [], Try.func110, by kernel_rfl, by kernel_rfl⟩
theorem good_142 : Go.Vm.Good Try.prog sid (fun f => fnIds.lookup f) (142, ir142) := .inl ⟨rfl, Try.f73, [], Try.func73, by kernel_rfl, by kernel_rfl⟩
theorem good_117 : Go.Vm.Good Try.prog sid (fun f => fnIds.lookup f) (117, ir117) := .inl ⟨rfl, Try.f53, [], Try.func53, by kernel_rfl, by kernel_rfl⟩
theorem good_155 : Go.Vm.Good Try.prog sid (fun f => fnIds.lookup f) (155, ir155) := .inl ⟨rfl, Try.f52, [], Try.func52, by kernel_rfl, by kernel_rfl⟩
theorem good_280 : Go.Vm.Good Try.prog sid (fun f => fnIds.lookup f) (280, ir280) := .inl ⟨rfl, Try.f147, [], Try.func147, by kernel_rfl, by kernel_rfl⟩
theorem good_307 : Go.Vm.Good Try.prog sid (fun f => fnIds.lookup f) (307, ir307) := .inl ⟨rfl, Try.f146, [], Try.func146, by kernel_rfl, by kernel_rfl⟩
theorem good_295 : Go.Vm.Good Try.prog sid (fun f => fnIds.lookup f) (295, ir295) := .inl ⟨rfl, Try.f111, [], Try.func111, by kernel_rfl, by kernel_rfl⟩
theorem good_279 : Go.Vm.Good Try.prog sid (fun f => fnIds.lookup f) (279, ir279) := .inl ⟨rfl, Try.f107, [], Try.func107, by kernel_rfl, by kernel_rfl⟩
theorem good_323 : Go.Vm.Good Try.prog sid (fun f => fnIds.lookup f) (323, ir323) := .inl ⟨rfl, Try.f108, [], Try.func108, by kernel_rfl, by kernel_rfl⟩
theorem good_345 : Go.Vm.Good Try.prog sid (fun f => fnIds.lookup f) (345, ir345) := .inl ⟨rfl, Try.f144, [], Try.func144, by kernel_rfl, by kernel_rfl⟩
theorem good_324 : Go.Vm.Good Try.prog sid (fun f => fnIds.lookup f) (324, ir324) := .inl ⟨rfl, Try.f109, [], Try.func109, by kernel_rfl, by kernel_rfl⟩
theorem good_209 : Go.Vm.Good Try.prog sid (fun f => fnIds.lookup f) (209, ir209) := .inl ⟨rfl, Try.f51, [], Try.func51, by kernel_rfl, by kernel_rfl⟩
theorem good_79 : Go.Vm.Good Try.prog sid (fun f => fnIds.lookup f) (79, ir79) := .inl ⟨rfl, Try.f25, [], Try.func25, by kernel_rfl, by kernel_rfl⟩
theorem good_321 : Go.Vm.Good Try.prog sid (fun f => fnIds.lookup f) (321, ir321) := .inl ⟨rfl, Try.f129, [], Try.func129, by kernel_rfl, by kernel_rfl⟩
theorem good_200 : Go.Vm.Good Try.prog sid (fun f => fnIds.lookup f) (200, ir200) := .inl ⟨rfl, Try.f78, [], Try.func78, by kernel_rfl, by kernel_rfl⟩
theorem good_78 : Go.Vm.Good Try.prog sid (fun f => fnIds.lookup f) (78, ir78) := .inl ⟨rfl, Try.f26, [], Try.func26, by kernel_rfl, by kernel_rfl⟩
theorem good_125 : Go.Vm.Good Try.prog sid (fun f => fnIds.lookup f) (125, ir125) := .inl ⟨rfl, Try.f29, [], Try.func29, by kernel_rfl, by kernel_rfl⟩
theorem good_236 : Go.Vm.Good Try.prog sid (fun f => fnIds.lookup f) (236, ir236) := .inl ⟨rfl, Try.f117, [], Try.func117, by kernel_rfl, by kernel_rfl⟩
theorem good_82 : Go.Vm.Good Try.prog sid (fun f => fnIds.lookup f) (82, ir82) := .inl ⟨rfl, Try.f54, [], Try.func54, by kernel_rfl, by kernel_rfl⟩
theorem good_227 : Go.Vm.Good Try.prog sid (fun f => fnIds.lookup f) (227, ir227) := .inl ⟨rfl, Try.f55, [], Try.func55, by kernel_rfl, by kernel_rfl⟩
theorem good_319 : Go.Vm.Good Try.prog sid (fun f => fnIds.lookup f) (319, ir319) := .inl ⟨rfl, Try.f125, [], Try.func125, by kernel_rfl, by kernel_rfl⟩
theorem good_197 : Go.Vm.Good Try.prog sid (fun f => fnIds.lookup f) (197, ir197) := .inl ⟨rfl, Try.f72, [], Try.func72, by kernel_rfl, by kernel_rfl⟩
theorem good_83 : Go.Vm.Good Try.prog sid (fun f => fnIds.lookup f) (83, ir83) := .inl ⟨rfl, Try.f21, [], Try.func21, by kernel_rfl, by kernel_rfl⟩
theorem good_76 : Go.Vm.Good Try.prog sid (fun f => fnIds.lookup f) (76, ir76) := .inl ⟨rfl, Try.f61, [], Try.func61, by kernel_rfl, by kernel_rfl⟩
theorem good_320 : Go.Vm.Good Try.prog sid (fun f => fnIds.lookup f) (320, ir320) := .inl ⟨rfl, Try.f127, [], Try.func127, by kernel_rfl, by kernel_rfl⟩
theorem good_199 : Go.Vm.Good Try.prog sid (fun f => fnIds.lookup f) (199, ir199) := .inl ⟨rfl, Try.f75, [], Try.func75, by kernel_rfl, by kernel_rfl⟩
theorem good_85 : Go.Vm.Good Try.prog sid (fun f => fnIds.lookup f) (85, ir85) := .inl ⟨rfl, Try.f23, [], Try.func23, by kernel_rfl, by kernel_rfl⟩
theorem good_50 : Go.Vm.Good Try.prog sid (fun f => fnIds.lookup f) (50, ir50) := .inl ⟨rfl, Try.f9, [], Try.func9, by kernel_rfl, by kernel_rfl⟩
theorem tab : FnTab Try.prog sid (fun f => fnIds.lookup f) Tb := fnTab_of fnIds sid_ok (by kernel_rfl) tbl (by
 unfold tbl
 intro p hp
 simp only [List.mem_cons, List.not_mem_nil, or_false] at hp
 rcases hp with rfl | rfl | rfl | rfl | rfl | rfl | rfl | rfl | rfl | rfl | rfl | rfl | rfl | rfl | rfl | rfl | rfl | rfl | rfl | rfl | rfl | rfl | rfl | rfl | rfl | rfl | rfl | rfl | rfl | rfl | rfl | rfl | rfl | rfl | rfl | rfl | rfl | rfl | rfl | rfl | rfl | rfl | rfl | rfl | rfl | rfl | rfl | rfl | rfl | rfl | rfl | rfl | rfl | rfl | rfl | rfl | rfl | rfl | rfl
 ·exact good_1080
 ·exact good_1201
 ·exact good_1081
 ·exact good_232
 ·exact good_377
 ·exact good_336
 ·exact good_340
 ·exact good_233
 ·exact good_230
 ·exact good_231
 ·exact good_286
 ·exact good_271
 ·exact good_351
 ·exact good_352
 ·exact good_290
 ·exact good_258
 ·exact good_264
 ·exact good_347
 ·exact good_266
 ·exact good_261
 ·exact good_257
 ·exact good_255
 ·exact good_285
 ·exact good_354
 ·exact good_302
 ·exact good_287
 ·exact good_362
 ·exact good_262
 ·exact good_2346
 ·exact good_263
 ·exact good_265
 ·exact good_296
 ·exact good_142
 ·exact good_117
 ·exact good_155
 ·exact good_280
 ·exact good_307
 ·exact good_295
 ·exact good_279
 ·exact good_323
 ·exact good_345
 ·exact good_324
 ·exact good_209
 ·exact good_79
 ·exact good_321
 ·exact good_200
 ·exact good_78
 ·exact good_125
 ·exact good_236
 ·exact good_82
 ·exact good_227
 ·exact good_319
 ·exact good_197
 ·exact good_83
 ·exact good_76
 ·exact good_320
 ·exact good_199
 ·exact good_85
 ·exact good_50)
set_option maxRecDepth 100000 in
theorem lifted (os : Os) (started : os.Started) (H : Type) (enc : TypeId × Value → H) :
  ReturnsInHanded {} Try.checked os 9 .any (Rows.fnExactEditHelloSpec.pre6 enc Try.prog Try.f9 Rows.fnExactEditHelloRow.domain false) (Rows.fnExactEditHelloSpec.post enc Try.prog Try.f9 false true false false) := by
 refine returnsInHanded_of_change (C := Try.checked) own started (by kernel_rfl) Try.func9
  (ChangeSpec.witness6 (enc := enc) (C := Try.checked) false ⟨#[], #[.agg #[.slice none 0 0, .slice none 0 0], .agg #[.int .i64 0, .int .i64 0]], []⟩ 8 (by kernel_rfl) (by kernel_rfl) (by kernel_rfl) (by kernel_rfl)) ?_
 intro W base args ds gs before hval hW _ _
 exact law_contract (C := Try.checked) (modes := md) (m := 8) tab (g := 50) (fn := Try.f9) (ls := [(true, [.row [.int .i64], .row [.int .i64, .row [.int .i64]]]), (true, [.int .i64, .int .i64])]) (by kernel_rfl) ans50 (s := Rows.fnExactEditHelloSpec) rfl (fun H ds h => by
   have h' : ds.length = 2 := h
   match ds, h' with
   | [_, _], _ => rfl) (tb := 4) (by kernel_rfl) (by kernel_rfl) laidOut (by
   intro t ht
   have key : ∀ t ∈ Try.f9.params.toList, Try.prog.readableRec t = true ∧ t < Try.prog.types.size := by
    rw [show Try.f9.params.toList = [36, 73] by kernel_rfl]
    intro t ht
    simp only [List.mem_cons, List.not_mem_nil, or_false] at ht
    rcases ht with rfl | rfl <;> exact ⟨by kernel_rfl, of_decide_eq_true (by kernel_rfl)⟩
   exact key t ht) W base args ds gs before hval hW
theorem holds : Rows.FnExactEditHelloSaid :=
 OpenClaim.holds_of_wide 9 Try.f9 rfl rfl rfl rfl rfl rfl rfl ⟨rfl, rfl, rfl, rfl, rfl⟩ rfl rfl rfl rfl rfl (by kernel_rfl) Try.func9 (by kernel_rfl)
  (of_decide_eq_true (by kernel_rfl)) (by unfold Func.isWrapper; rw [if_neg (by decide +kernel)]; exact ⟨rfl, rfl⟩)
  (fun os started H enc _ => lifted os started H enc)
#print axioms holds
end Go.Proofs.Ytijojkfdbpiimaa
