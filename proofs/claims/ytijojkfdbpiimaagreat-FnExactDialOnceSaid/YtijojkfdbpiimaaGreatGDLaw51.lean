/- FnExactDialOnce: whatever the input, the law returns true and each argument reads behind the call as it read before; no condition. -/
import Derived.Test.YtijojkfdbpiimaaGreatRows
import Derived.Test.YtijojkfdbpiimaaGreatGDN51
import Derived.Test.YtijojkfdbpiimaaGreatVmX
import Derived.ProofKit
set_option maxHeartbeats 4000000
set_option maxRecDepth 10000
set_option linter.unusedVariables false
set_option linter.unusedSimpArgs false
namespace Go.Proofs.YtijojkfdbpiimaaGreat
open Go.ChangeShapes Go.WideShapes Go.ChangeAt Go.RowKit Go.Vm
def fnIds : List (Nat × Nat) := [(2, 2), (3, 9), (4, 15), (5, 22), (6, 51), (7, 54), (8, 83), (9, 84), (10, 85), (11, 76), (12, 86), (13, 65), (14, 78), (15, 79), (16, 1081), (17, 1080), (18, 1087), (19, 88), (20, 108), (21, 109), (22, 110), (23, 64), (24, 111), (25, 112), (26, 113), (27, 114), (28, 115), (29, 116), (30, 117), (31, 118), (32, 119), (33, 137), (34, 138), (35, 139), (36, 140), (37, 1141), (38, 101), (39, 210), (40, 103), (41, 211), (42, 105), (43, 1172), (44, 222), (45, 204), (46, 95), (47, 1224), (48, 225), (49, 227), (50, 197), (51, 199), (52, 200), (53, 1201), (54, 125), (55, 246), (56, 3247), (57, 3248), (58, 3249), (59, 3250), (60, 3251), (61, 3252), (62, 3253), (63, 254), (64, 229), (65, 255), (66, 180), (67, 256), (68, 257), (69, 258), (70, 232), (71, 3259), (72, 3260), (73, 261), (74, 262), (75, 263), (76, 264), (77, 265), (78, 266), (79, 267), (80, 142), (81, 279), (82, 209), (83, 168), (84, 154), (85, 143), (86, 162), (87, 151), (88, 160), (89, 280), (90, 155), (91, 281), (92, 56), (93, 196), (94, 58), (95, 182), (96, 60), (97, 208), (98, 149), (99, 184), (100, 150), (101, 319), (102, 320), (103, 321), (104, 3344), (105, 3317), (106, 345), (107, 3315), (108, 3316), (109, 169), (110, 144), (111, 163), (112, 152), (113, 161), (114, 146), (115, 179), (116, 302), (117, 285), (118, 230), (119, 290), (120, 233), (121, 287), (122, 2346), (123, 347), (124, 271), (125, 295), (126, 323), (127, 324), (128, 296), (129, 306), (130, 307), (131, 282), (132, 71), (133, 283), (134, 120), (135, 293), (136, 127), (137, 286), (138, 301), (139, 173), (140, 174), (141, 192), (142, 205), (143, 292), (144, 185), (145, 189), (146, 3361), (147, 308), (148, 309), (149, 73), (150, 284), (151, 121), (152, 294), (153, 304), (154, 303), (155, 354), (156, 351), (157, 352), (158, 336), (159, 340), (160, 2378), (161, 379), (162, 231), (163, 362), (164, 268), (165, 68), (166, 69), (167, 310), (168, 299), (169, 311), (170, 130), (171, 170), (172, 164), (173, 198), (174, 131), (175, 171), (176, 165), (177, 186), (178, 356), (179, 337), (180, 357), (181, 234), (182, 235), (183, 269), (184, 355), (185, 223), (186, 377), (187, 2385), (188, 386), (189, 387), (190, 388), (191, 389), (192, 390), (193, 391), (194, 392), (195, 393), (196, 394), (197, 395), (198, 348), (199, 358), (200, 288), (201, 359), (202, 228), (203, 272), (204, 166), (205, 75), (206, 273), (207, 77), (208, 305), (209, 167), (210, 341), (211, 349), (212, 396), (213, 397), (214, 398), (215, 399), (216, 400), (217, 401), (218, 350), (219, 291), (220, 402)]
def sid (g : Nat) : Nat := ((fnIds.find? fun p => p.2 == g).map (·.1)).getD 0
theorem sid_ok : ∀ p ∈ fnIds, sid p.2 = p.1 := by decide +kernel
theorem own : ownKnob Tryz.prog.godebug = none := by kernel_rfl
theorem laidOut : laidOutB Tryz.prog = true := by kernel_rfl
def laysGrow_ren : Go.Shelf.Ren := ⟨fun | 4 => 184 | n => n, fun | 22 => 22 | 25 => 3 | 3 => 3 | 4 => 4 | 9 => 9 | 20 => 20 | 0 => 0 | n => n, fun | n => n⟩
theorem laysGrow : Go.Proofs.Lays8.n4 Tryz.prog laysGrow_ren := {
 mixed := by kernel_rfl
 f4 := ⟨Tryz.f184.name, by decide, Tryz.func184.trans (congrArg some (by kernel_rfl))⟩
 t0 := Tryz.underlying0
 a0 := Tryz.isAgg0
 z0 := Tryz.sizeOf0
 v0 := Tryz.zeroValue0
 t3 := Tryz.underlying3
 a3 := Tryz.isAgg3
 z3 := Tryz.sizeOf3
 v3 := Tryz.zeroValue3
 t4 := Tryz.underlying4
 a4 := Tryz.isAgg4
 z4 := Tryz.sizeOf4
 v4 := Tryz.zeroValue4
 t9 := Tryz.underlying9
 a9 := Tryz.isAgg9
 z9 := Tryz.sizeOf9
 v9 := Tryz.zeroValue9
 t20 := Tryz.underlying20
 a20 := Tryz.isAgg20
 z20 := Tryz.sizeOf20
 v20 := Tryz.zeroValue20
 t22 := Tryz.underlying22
 a22 := Tryz.isAgg22
 z22 := Tryz.sizeOf22
 v22 := Tryz.zeroValue22 }
theorem good_227 : Go.Vm.Good Tryz.prog sid (fun f => fnIds.lookup f) (227, ir227) := .inl ⟨rfl, Tryz.f49, [], Tryz.func49, by kernel_rfl, by kernel_rfl⟩
theorem good_56 : Go.Vm.Good Tryz.prog sid (fun f => fnIds.lookup f) (56, ir56) := .inl ⟨rfl, Tryz.f92, [], Tryz.func92, by kernel_rfl, by kernel_rfl⟩
theorem good_101 : Go.Vm.Good Tryz.prog sid (fun f => fnIds.lookup f) (101, ir101) := .inl ⟨rfl, Tryz.f38, [], Tryz.func38, by kernel_rfl, by kernel_rfl⟩
theorem good_76 : Go.Vm.Good Tryz.prog sid (fun f => fnIds.lookup f) (76, ir76) := .inl ⟨rfl, Tryz.f11, [], Tryz.func11, by kernel_rfl, by kernel_rfl⟩
theorem good_58 : Go.Vm.Good Tryz.prog sid (fun f => fnIds.lookup f) (58, ir58) := .inl ⟨rfl, Tryz.f94, [], Tryz.func94, by kernel_rfl, by kernel_rfl⟩
theorem good_103 : Go.Vm.Good Tryz.prog sid (fun f => fnIds.lookup f) (103, ir103) := .inl ⟨rfl, Tryz.f40, [], Tryz.func40, by kernel_rfl, by kernel_rfl⟩
theorem good_79 : Go.Vm.Good Tryz.prog sid (fun f => fnIds.lookup f) (79, ir79) := .inl ⟨rfl, Tryz.f15, [], Tryz.func15, by kernel_rfl, by kernel_rfl⟩
theorem good_60 : Go.Vm.Good Tryz.prog sid (fun f => fnIds.lookup f) (60, ir60) := .inl ⟨rfl, Tryz.f96, [], Tryz.func96, by kernel_rfl, by kernel_rfl⟩
theorem good_105 : Go.Vm.Good Tryz.prog sid (fun f => fnIds.lookup f) (105, ir105) := .inl ⟨rfl, Tryz.f42, [], Tryz.func42, by kernel_rfl, by kernel_rfl⟩
theorem good_1080 : Go.Vm.Good Tryz.prog sid (fun f => fnIds.lookup f) (1080, ir1080) := .inl ⟨rfl, Tryz.f17, [.mrow, .val], Tryz.func17, by kernel_rfl, by kernel_rfl⟩
theorem good_1201 : Go.Vm.Good Tryz.prog sid (fun f => fnIds.lookup f) (1201, ir1201) := .inl ⟨rfl, Tryz.f53, [.mrow, .val], Tryz.func53, by kernel_rfl, by kernel_rfl⟩
theorem good_1081 : Go.Vm.Good Tryz.prog sid (fun f => fnIds.lookup f) (1081, ir1081) := .inl ⟨rfl, Tryz.f16, [.mrow, .val], Tryz.func16, by kernel_rfl, by kernel_rfl⟩
theorem good_228 : Go.Vm.Good Tryz.prog sid (fun f => fnIds.lookup f) (228, ir228) := .inl ⟨rfl, Tryz.f202, [], Tryz.func202, by kernel_rfl, by kernel_rfl⟩
theorem good_285 : Go.Vm.Good Tryz.prog sid (fun f => fnIds.lookup f) (285, ir285) := .inl ⟨rfl, Tryz.f117, [], Tryz.func117, by kernel_rfl, by kernel_rfl⟩
theorem good_286 : Go.Vm.Good Tryz.prog sid (fun f => fnIds.lookup f) (286, ir286) := .inl ⟨rfl, Tryz.f137, [], Tryz.func137, by kernel_rfl, by kernel_rfl⟩
theorem good_230 : Go.Vm.Good Tryz.prog sid (fun f => fnIds.lookup f) (230, ir230) := .inl ⟨rfl, Tryz.f118, [], Tryz.func118, by kernel_rfl, by kernel_rfl⟩
theorem good_292 : Go.Vm.Good Tryz.prog sid (fun f => fnIds.lookup f) (292, ir292) := .inl ⟨rfl, Tryz.f143, [], Tryz.func143, by kernel_rfl, by kernel_rfl⟩
theorem good_149 : Go.Vm.Good Tryz.prog sid (fun f => fnIds.lookup f) (149, ir149) := .inl ⟨rfl, Tryz.f98, [], Tryz.func98, by kernel_rfl, by kernel_rfl⟩
theorem good_280 : Go.Vm.Good Tryz.prog sid (fun f => fnIds.lookup f) (280, ir280) := .inl ⟨rfl, Tryz.f89, [], Tryz.func89, by kernel_rfl, by kernel_rfl⟩
theorem good_179 : Go.Vm.Good Tryz.prog sid (fun f => fnIds.lookup f) (179, ir179) := .inl ⟨rfl, Tryz.f115, [], Tryz.func115, by kernel_rfl, by kernel_rfl⟩
theorem good_232 : Go.Vm.Good Tryz.prog sid (fun f => fnIds.lookup f) (232, ir232) := .inl ⟨rfl, Tryz.f70, [], Tryz.func70, by kernel_rfl, by kernel_rfl⟩
theorem good_354 : Go.Vm.Good Tryz.prog sid (fun f => fnIds.lookup f) (354, ir354) := .inl ⟨rfl, Tryz.f155, [], Tryz.func155, by kernel_rfl, by kernel_rfl⟩
theorem good_302 : Go.Vm.Good Tryz.prog sid (fun f => fnIds.lookup f) (302, ir302) := .inl ⟨rfl, Tryz.f116, [], Tryz.func116, by kernel_rfl, by kernel_rfl⟩
theorem good_287 : Go.Vm.Good Tryz.prog sid (fun f => fnIds.lookup f) (287, ir287) := .inl ⟨rfl, Tryz.f121, [], Tryz.func121, by kernel_rfl, by kernel_rfl⟩
theorem good_150 : Go.Vm.Good Tryz.prog sid (fun f => fnIds.lookup f) (150, ir150) := .inl ⟨rfl, Tryz.f100, [], Tryz.func100, by kernel_rfl, by kernel_rfl⟩
theorem good_1087 : Go.Vm.Good Tryz.prog sid (fun f => fnIds.lookup f) (1087, ir1087) := .inl ⟨rfl, Tryz.f18, [.mrow, .val], Tryz.func18, by kernel_rfl, by kernel_rfl⟩
theorem good_1172 : Go.Vm.Good Tryz.prog sid (fun f => fnIds.lookup f) (1172, ir1172) := .inl ⟨rfl, Tryz.f43, [.mrow, .val], Tryz.func43, by kernel_rfl, by kernel_rfl⟩
theorem good_257 : Go.Vm.Good Tryz.prog sid (fun f => fnIds.lookup f) (257, ir257) := .inl ⟨rfl, Tryz.f68, [], Tryz.func68, by kernel_rfl, by kernel_rfl⟩
theorem good_231 : Go.Vm.Good Tryz.prog sid (fun f => fnIds.lookup f) (231, ir231) := .inl ⟨rfl, Tryz.f162, [], Tryz.func162, by kernel_rfl, by kernel_rfl⟩
theorem good_271 : Go.Vm.Good Tryz.prog sid (fun f => fnIds.lookup f) (271, ir271) := .inl ⟨rfl, Tryz.f124, [], Tryz.func124, by kernel_rfl, by kernel_rfl⟩
theorem good_142 : Go.Vm.Good Tryz.prog sid (fun f => fnIds.lookup f) (142, ir142) := .inl ⟨rfl, Tryz.f80, [], Tryz.func80, by kernel_rfl, by kernel_rfl⟩
theorem good_255 : Go.Vm.Good Tryz.prog sid (fun f => fnIds.lookup f) (255, ir255) := .inl ⟨rfl, Tryz.f65, [], Tryz.func65, by kernel_rfl, by kernel_rfl⟩
theorem good_377 : Go.Vm.Good Tryz.prog sid (fun f => fnIds.lookup f) (377, ir377) := .inl ⟨rfl, Tryz.f186, [], Tryz.func186, by kernel_rfl, by kernel_rfl⟩
theorem good_336 : Go.Vm.Good Tryz.prog sid (fun f => fnIds.lookup f) (336, ir336) := .inl ⟨rfl, Tryz.f158, [], Tryz.func158, by kernel_rfl, by kernel_rfl⟩
theorem good_340 : Go.Vm.Good Tryz.prog sid (fun f => fnIds.lookup f) (340, ir340) := .inl ⟨rfl, Tryz.f159, [], Tryz.func159, by kernel_rfl, by kernel_rfl⟩
theorem good_233 : Go.Vm.Good Tryz.prog sid (fun f => fnIds.lookup f) (233, ir233) := .inl ⟨rfl, Tryz.f120, [], Tryz.func120, by kernel_rfl, by kernel_rfl⟩
theorem good_351 : Go.Vm.Good Tryz.prog sid (fun f => fnIds.lookup f) (351, ir351) := .inl ⟨rfl, Tryz.f156, [], Tryz.func156, by kernel_rfl, by kernel_rfl⟩
theorem good_352 : Go.Vm.Good Tryz.prog sid (fun f => fnIds.lookup f) (352, ir352) := .inl ⟨rfl, Tryz.f157, [], Tryz.func157, by kernel_rfl, by kernel_rfl⟩
theorem good_290 : Go.Vm.Good Tryz.prog sid (fun f => fnIds.lookup f) (290, ir290) := .inl ⟨rfl, Tryz.f119, [], Tryz.func119, by kernel_rfl, by kernel_rfl⟩
theorem good_258 : Go.Vm.Good Tryz.prog sid (fun f => fnIds.lookup f) (258, ir258) := .inl ⟨rfl, Tryz.f69, [], Tryz.func69, by kernel_rfl, by kernel_rfl⟩
theorem good_113 : Go.Vm.Good Tryz.prog sid (fun f => fnIds.lookup f) (113, ir113) := .inl ⟨rfl, Tryz.f26, [], Tryz.func26, by kernel_rfl, by kernel_rfl⟩
theorem good_264 : Go.Vm.Good Tryz.prog sid (fun f => fnIds.lookup f) (264, ir264) := .inl ⟨rfl, Tryz.f76, [], Tryz.func76, by kernel_rfl, by kernel_rfl⟩
theorem good_299 : Go.Vm.Good Tryz.prog sid (fun f => fnIds.lookup f) (299, ir299) := clone_seat sid_ok (by kernel_rfl) rfl Tryz.func168 (by kernel_rfl) (by kernel_rfl) (by kernel_rfl) (by kernel_rfl) (by kernel_rfl) (by kernel_rfl) (by kernel_rfl) (by kernel_rfl) (by kernel_rfl) (by kernel_rfl) (by kernel_rfl) (by kernel_rfl) (by kernel_rfl) (by kernel_rfl)
theorem good_288 : Go.Vm.Good Tryz.prog sid (fun f => fnIds.lookup f) (288, ir288) := .inl ⟨rfl, Tryz.f200, [], Tryz.func200, by kernel_rfl, by kernel_rfl⟩
theorem good_68 : Go.Vm.Good Tryz.prog sid (fun f => fnIds.lookup f) (68, ir68) := .inl ⟨rfl, Tryz.f165, [], Tryz.func165, by kernel_rfl, by kernel_rfl⟩
theorem good_358 : Go.Vm.Good Tryz.prog sid (fun f => fnIds.lookup f) (358, ir358) := .inl ⟨rfl, Tryz.f199, [], Tryz.func199, by kernel_rfl, by kernel_rfl⟩
theorem good_359 : Go.Vm.Good Tryz.prog sid (fun f => fnIds.lookup f) (359, ir359) := .inl ⟨rfl, Tryz.f201, [], Tryz.func201, by kernel_rfl, by kernel_rfl⟩
theorem good_310 : Go.Vm.Good Tryz.prog sid (fun f => fnIds.lookup f) (310, ir310) := .inl ⟨rfl, Tryz.f167, [], Tryz.func167, by kernel_rfl, by kernel_rfl⟩
theorem good_311 : Go.Vm.Good Tryz.prog sid (fun f => fnIds.lookup f) (311, ir311) := .inl ⟨rfl, Tryz.f169, [], Tryz.func169, by kernel_rfl, by kernel_rfl⟩
theorem good_69 : Go.Vm.Good Tryz.prog sid (fun f => fnIds.lookup f) (69, ir69) := .inl ⟨rfl, Tryz.f166, [], Tryz.func166, by kernel_rfl, by kernel_rfl⟩
theorem good_174 : Go.Vm.Good Tryz.prog sid (fun f => fnIds.lookup f) (174, ir174) := .inl ⟨rfl, Tryz.f140, [], Tryz.func140, by kernel_rfl, by kernel_rfl⟩
theorem good_347 : Go.Vm.Good Tryz.prog sid (fun f => fnIds.lookup f) (347, ir347) := .inl ⟨rfl, Tryz.f123, [], Tryz.func123, by kernel_rfl, by kernel_rfl⟩
theorem good_266 : Go.Vm.Good Tryz.prog sid (fun f => fnIds.lookup f) (266, ir266) := .inl ⟨rfl, Tryz.f78, [], Tryz.func78, by kernel_rfl, by kernel_rfl⟩
theorem good_261 : Go.Vm.Good Tryz.prog sid (fun f => fnIds.lookup f) (261, ir261) := .inl ⟨rfl, Tryz.f73, [], Tryz.func73, by kernel_rfl, by kernel_rfl⟩
theorem good_182 : Go.Vm.Good Tryz.prog sid (fun f => fnIds.lookup f) (182, ir182) := .inl ⟨rfl, Tryz.f95, [], Tryz.func95, by kernel_rfl, by kernel_rfl⟩
theorem good_348 : Go.Vm.Good Tryz.prog sid (fun f => fnIds.lookup f) (348, ir348) := .inl ⟨rfl, Tryz.f198, [], Tryz.func198, by kernel_rfl, by kernel_rfl⟩
theorem good_268 : Go.Vm.Good Tryz.prog sid (fun f => fnIds.lookup f) (268, ir268) := .inl ⟨rfl, Tryz.f164, [], Tryz.func164, by kernel_rfl, by kernel_rfl⟩
theorem good_71 : Go.Vm.Good Tryz.prog sid (fun f => fnIds.lookup f) (71, ir71) := .inl ⟨rfl, Tryz.f132, [], Tryz.func132, by kernel_rfl, by kernel_rfl⟩
theorem good_120 : Go.Vm.Good Tryz.prog sid (fun f => fnIds.lookup f) (120, ir120) := .inl ⟨rfl, Tryz.f134, [], Tryz.func134, by kernel_rfl, by kernel_rfl⟩
theorem good_282 : Go.Vm.Good Tryz.prog sid (fun f => fnIds.lookup f) (282, ir282) := .inl ⟨rfl, Tryz.f131, [], Tryz.func131, by kernel_rfl, by kernel_rfl⟩
theorem good_283 : Go.Vm.Good Tryz.prog sid (fun f => fnIds.lookup f) (283, ir283) := .inl ⟨rfl, Tryz.f133, [], Tryz.func133, by kernel_rfl, by kernel_rfl⟩
theorem good_143 : Go.Vm.Good Tryz.prog sid (fun f => fnIds.lookup f) (143, ir143) := .inl ⟨rfl, Tryz.f85, [], Tryz.func85, by kernel_rfl, by kernel_rfl⟩
theorem good_127 : Go.Vm.Good Tryz.prog sid (fun f => fnIds.lookup f) (127, ir127) := .inl ⟨rfl, Tryz.f136, [], Tryz.func136, by kernel_rfl, by kernel_rfl⟩
theorem good_293 : Go.Vm.Good Tryz.prog sid (fun f => fnIds.lookup f) (293, ir293) := .inl ⟨rfl, Tryz.f135, [], Tryz.func135, by kernel_rfl, by kernel_rfl⟩
theorem good_151 : Go.Vm.Good Tryz.prog sid (fun f => fnIds.lookup f) (151, ir151) := .inl ⟨rfl, Tryz.f87, [], Tryz.func87, by kernel_rfl, by kernel_rfl⟩
theorem good_301 : Go.Vm.Good Tryz.prog sid (fun f => fnIds.lookup f) (301, ir301) := .inl ⟨rfl, Tryz.f138, [], Tryz.func138, by kernel_rfl, by kernel_rfl⟩
theorem good_160 : Go.Vm.Good Tryz.prog sid (fun f => fnIds.lookup f) (160, ir160) := .inl ⟨rfl, Tryz.f88, [], Tryz.func88, by kernel_rfl, by kernel_rfl⟩
theorem good_162 : Go.Vm.Good Tryz.prog sid (fun f => fnIds.lookup f) (162, ir162) := .inl ⟨rfl, Tryz.f86, [], Tryz.func86, by kernel_rfl, by kernel_rfl⟩
theorem good_256 : Go.Vm.Good Tryz.prog sid (fun f => fnIds.lookup f) (256, ir256) := .inl ⟨rfl, Tryz.f67, [], Tryz.func67, by kernel_rfl, by kernel_rfl⟩
theorem good_112 : Go.Vm.Good Tryz.prog sid (fun f => fnIds.lookup f) (112, ir112) := .inl ⟨rfl, Tryz.f25, [], Tryz.func25, by kernel_rfl, by kernel_rfl⟩
theorem good_306 : Go.Vm.Good Tryz.prog sid (fun f => fnIds.lookup f) (306, ir306) := .inl ⟨rfl, Tryz.f129, [], Tryz.func129, by kernel_rfl, by kernel_rfl⟩
theorem good_307 : Go.Vm.Good Tryz.prog sid (fun f => fnIds.lookup f) (307, ir307) := .inl ⟨rfl, Tryz.f130, [], Tryz.func130, by kernel_rfl, by kernel_rfl⟩
theorem good_168 : Go.Vm.Good Tryz.prog sid (fun f => fnIds.lookup f) (168, ir168) := .inl ⟨rfl, Tryz.f83, [], Tryz.func83, by kernel_rfl, by kernel_rfl⟩
theorem good_173 : Go.Vm.Good Tryz.prog sid (fun f => fnIds.lookup f) (173, ir173) := .inl ⟨rfl, Tryz.f139, [], Tryz.func139, by kernel_rfl, by kernel_rfl⟩
theorem good_295 : Go.Vm.Good Tryz.prog sid (fun f => fnIds.lookup f) (295, ir295) := .inl ⟨rfl, Tryz.f125, [], Tryz.func125, by kernel_rfl, by kernel_rfl⟩
theorem good_279 : Go.Vm.Good Tryz.prog sid (fun f => fnIds.lookup f) (279, ir279) := .inl ⟨rfl, Tryz.f81, [], Tryz.func81, by kernel_rfl, by kernel_rfl⟩
theorem good_196 : Go.Vm.Good Tryz.prog sid (fun f => fnIds.lookup f) (196, ir196) := .inl ⟨rfl, Tryz.f93, [], Tryz.func93, by kernel_rfl, by kernel_rfl⟩
theorem good_296 : Go.Vm.Good Tryz.prog sid (fun f => fnIds.lookup f) (296, ir296) := .inl ⟨rfl, Tryz.f128, [], Tryz.func128, by kernel_rfl, by kernel_rfl⟩
theorem good_362 : Go.Vm.Good Tryz.prog sid (fun f => fnIds.lookup f) (362, ir362) := .inl ⟨rfl, Tryz.f163, [], Tryz.func163, by kernel_rfl, by kernel_rfl⟩
theorem good_154 : Go.Vm.Good Tryz.prog sid (fun f => fnIds.lookup f) (154, ir154) := .inl ⟨rfl, Tryz.f84, [], Tryz.func84, by kernel_rfl, by kernel_rfl⟩
theorem good_210 : Go.Vm.Good Tryz.prog sid (fun f => fnIds.lookup f) (210, ir210) := .inl ⟨rfl, Tryz.f39, [], Tryz.func39, by kernel_rfl, by kernel_rfl⟩
theorem good_267 : Go.Vm.Good Tryz.prog sid (fun f => fnIds.lookup f) (267, ir267) := .inl ⟨rfl, Tryz.f79, [], Tryz.func79, by kernel_rfl, by kernel_rfl⟩
theorem good_119 : Go.Vm.Good Tryz.prog sid (fun f => fnIds.lookup f) (119, ir119) := .inl ⟨rfl, Tryz.f32, [], Tryz.func32, by kernel_rfl, by kernel_rfl⟩
theorem good_114 : Go.Vm.Good Tryz.prog sid (fun f => fnIds.lookup f) (114, ir114) := .inl ⟨rfl, Tryz.f27, [], Tryz.func27, by kernel_rfl, by kernel_rfl⟩
theorem good_349 : Go.Vm.Good Tryz.prog sid (fun f => fnIds.lookup f) (349, ir349) := .inl ⟨rfl, Tryz.f211, [], Tryz.func211, by kernel_rfl, by kernel_rfl⟩
theorem good_269 : Go.Vm.Good Tryz.prog sid (fun f => fnIds.lookup f) (269, ir269) := .inl ⟨rfl, Tryz.f183, [], Tryz.func183, by kernel_rfl, by kernel_rfl⟩
theorem good_341 : Go.Vm.Good Tryz.prog sid (fun f => fnIds.lookup f) (341, ir341) := .inl ⟨rfl, Tryz.f210, [], Tryz.func210, by kernel_rfl, by kernel_rfl⟩
theorem good_234 : Go.Vm.Good Tryz.prog sid (fun f => fnIds.lookup f) (234, ir234) := .inl ⟨rfl, Tryz.f181, [], Tryz.func181, by kernel_rfl, by kernel_rfl⟩
theorem good_235 : Go.Vm.Good Tryz.prog sid (fun f => fnIds.lookup f) (235, ir235) := .inl ⟨rfl, Tryz.f182, [], Tryz.func182, by kernel_rfl, by kernel_rfl⟩
theorem good_73 : Go.Vm.Good Tryz.prog sid (fun f => fnIds.lookup f) (73, ir73) := .inl ⟨rfl, Tryz.f149, [], Tryz.func149, by kernel_rfl, by kernel_rfl⟩
theorem good_121 : Go.Vm.Good Tryz.prog sid (fun f => fnIds.lookup f) (121, ir121) := .inl ⟨rfl, Tryz.f151, [], Tryz.func151, by kernel_rfl, by kernel_rfl⟩
theorem good_355 : Go.Vm.Good Tryz.prog sid (fun f => fnIds.lookup f) (355, ir355) := grow_seat (i0 := Tryz.t3) (z := .int .i64 0) laysGrow rfl (by kernel_rfl) (by kernel_rfl) (by kernel_rfl) (by kernel_rfl) (by decide) (by kernel_rfl)
theorem good_304 : Go.Vm.Good Tryz.prog sid (fun f => fnIds.lookup f) (304, ir304) := .inl ⟨rfl, Tryz.f153, [], Tryz.func153, by kernel_rfl, by kernel_rfl⟩
theorem good_284 : Go.Vm.Good Tryz.prog sid (fun f => fnIds.lookup f) (284, ir284) := .inl ⟨rfl, Tryz.f150, [], Tryz.func150, by kernel_rfl, by kernel_rfl⟩
theorem good_144 : Go.Vm.Good Tryz.prog sid (fun f => fnIds.lookup f) (144, ir144) := .inl ⟨rfl, Tryz.f110, [], Tryz.func110, by kernel_rfl, by kernel_rfl⟩
theorem good_146 : Go.Vm.Good Tryz.prog sid (fun f => fnIds.lookup f) (146, ir146) := .inl ⟨rfl, Tryz.f114, [], Tryz.func114, by kernel_rfl, by kernel_rfl⟩
theorem good_118 : Go.Vm.Good Tryz.prog sid (fun f => fnIds.lookup f) (118, ir118) := .inl ⟨rfl, Tryz.f31, [], Tryz.func31, by kernel_rfl, by kernel_rfl⟩
theorem good_294 : Go.Vm.Good Tryz.prog sid (fun f => fnIds.lookup f) (294, ir294) := .inl ⟨rfl, Tryz.f152, [], Tryz.func152, by kernel_rfl, by kernel_rfl⟩
theorem good_152 : Go.Vm.Good Tryz.prog sid (fun f => fnIds.lookup f) (152, ir152) := .inl ⟨rfl, Tryz.f112, [], Tryz.func112, by kernel_rfl, by kernel_rfl⟩
theorem good_229 : Go.Vm.Good Tryz.prog sid (fun f => fnIds.lookup f) (229, ir229) := .inl ⟨rfl, Tryz.f64, [], Tryz.func64, by kernel_rfl, by kernel_rfl⟩
theorem good_291 : Go.Vm.Good Tryz.prog sid (fun f => fnIds.lookup f) (291, ir291) := .inl ⟨rfl, Tryz.f219, [], Tryz.func219, by kernel_rfl, by kernel_rfl⟩
theorem good_337 : Go.Vm.Good Tryz.prog sid (fun f => fnIds.lookup f) (337, ir337) := .inl ⟨rfl, Tryz.f179, [], Tryz.func179, by kernel_rfl, by kernel_rfl⟩
theorem good_223 : Go.Vm.Good Tryz.prog sid (fun f => fnIds.lookup f) (223, ir223) := .inl ⟨rfl, Tryz.f185, [], Tryz.func185, by kernel_rfl, by kernel_rfl⟩
theorem good_303 : Go.Vm.Good Tryz.prog sid (fun f => fnIds.lookup f) (303, ir303) := .inl ⟨rfl, Tryz.f154, [], Tryz.func154, by kernel_rfl, by kernel_rfl⟩
theorem good_161 : Go.Vm.Good Tryz.prog sid (fun f => fnIds.lookup f) (161, ir161) := .inl ⟨rfl, Tryz.f113, [], Tryz.func113, by kernel_rfl, by kernel_rfl⟩
theorem good_163 : Go.Vm.Good Tryz.prog sid (fun f => fnIds.lookup f) (163, ir163) := .inl ⟨rfl, Tryz.f111, [], Tryz.func111, by kernel_rfl, by kernel_rfl⟩
theorem good_180 : Go.Vm.Good Tryz.prog sid (fun f => fnIds.lookup f) (180, ir180) := .inl ⟨rfl, Tryz.f66, [], Tryz.func66, by kernel_rfl, by kernel_rfl⟩
theorem good_111 : Go.Vm.Good Tryz.prog sid (fun f => fnIds.lookup f) (111, ir111) := .inl ⟨rfl, Tryz.f24, [], Tryz.func24, by kernel_rfl, by kernel_rfl⟩
theorem good_356 : Go.Vm.Good Tryz.prog sid (fun f => fnIds.lookup f) (356, ir356) := .inl ⟨rfl, Tryz.f178, [], Tryz.func178, by kernel_rfl, by kernel_rfl⟩
theorem good_308 : Go.Vm.Good Tryz.prog sid (fun f => fnIds.lookup f) (308, ir308) := .inl ⟨rfl, Tryz.f147, [], Tryz.func147, by kernel_rfl, by kernel_rfl⟩
theorem good_357 : Go.Vm.Good Tryz.prog sid (fun f => fnIds.lookup f) (357, ir357) := .inl ⟨rfl, Tryz.f180, [], Tryz.func180, by kernel_rfl, by kernel_rfl⟩
theorem good_309 : Go.Vm.Good Tryz.prog sid (fun f => fnIds.lookup f) (309, ir309) := .inl ⟨rfl, Tryz.f148, [], Tryz.func148, by kernel_rfl, by kernel_rfl⟩
theorem good_169 : Go.Vm.Good Tryz.prog sid (fun f => fnIds.lookup f) (169, ir169) := .inl ⟨rfl, Tryz.f109, [], Tryz.func109, by kernel_rfl, by kernel_rfl⟩
theorem good_254 : Go.Vm.Good Tryz.prog sid (fun f => fnIds.lookup f) (254, ir254) := .inl ⟨rfl, Tryz.f63, [], Tryz.func63, by kernel_rfl, by kernel_rfl⟩
theorem good_211 : Go.Vm.Good Tryz.prog sid (fun f => fnIds.lookup f) (211, ir211) := .inl ⟨rfl, Tryz.f41, [], Tryz.func41, by kernel_rfl, by kernel_rfl⟩
theorem good_65 : Go.Vm.Good Tryz.prog sid (fun f => fnIds.lookup f) (65, ir65) := .inl ⟨rfl, Tryz.f13, [], Tryz.func13, by kernel_rfl, by kernel_rfl⟩
theorem good_321 : Go.Vm.Good Tryz.prog sid (fun f => fnIds.lookup f) (321, ir321) := .inl ⟨rfl, Tryz.f103, [], Tryz.func103, by kernel_rfl, by kernel_rfl⟩
theorem good_200 : Go.Vm.Good Tryz.prog sid (fun f => fnIds.lookup f) (200, ir200) := .inl ⟨rfl, Tryz.f52, [], Tryz.func52, by kernel_rfl, by kernel_rfl⟩
theorem good_78 : Go.Vm.Good Tryz.prog sid (fun f => fnIds.lookup f) (78, ir78) := .inl ⟨rfl, Tryz.f14, [], Tryz.func14, by kernel_rfl, by kernel_rfl⟩
theorem good_319 : Go.Vm.Good Tryz.prog sid (fun f => fnIds.lookup f) (319, ir319) := .inl ⟨rfl, Tryz.f101, [], Tryz.func101, by kernel_rfl, by kernel_rfl⟩
theorem good_197 : Go.Vm.Good Tryz.prog sid (fun f => fnIds.lookup f) (197, ir197) := .inl ⟨rfl, Tryz.f50, [], Tryz.func50, by kernel_rfl, by kernel_rfl⟩
theorem good_83 : Go.Vm.Good Tryz.prog sid (fun f => fnIds.lookup f) (83, ir83) := .inl ⟨rfl, Tryz.f8, [], Tryz.func8, by kernel_rfl, by kernel_rfl⟩
theorem good_320 : Go.Vm.Good Tryz.prog sid (fun f => fnIds.lookup f) (320, ir320) := .inl ⟨rfl, Tryz.f102, [], Tryz.func102, by kernel_rfl, by kernel_rfl⟩
theorem good_199 : Go.Vm.Good Tryz.prog sid (fun f => fnIds.lookup f) (199, ir199) := .inl ⟨rfl, Tryz.f51, [], Tryz.func51, by kernel_rfl, by kernel_rfl⟩
theorem good_85 : Go.Vm.Good Tryz.prog sid (fun f => fnIds.lookup f) (85, ir85) := .inl ⟨rfl, Tryz.f10, [], Tryz.func10, by kernel_rfl, by kernel_rfl⟩
theorem good_125 : Go.Vm.Good Tryz.prog sid (fun f => fnIds.lookup f) (125, ir125) := .inl ⟨rfl, Tryz.f54, [], Tryz.func54, by kernel_rfl, by kernel_rfl⟩
theorem good_88 : Go.Vm.Good Tryz.prog sid (fun f => fnIds.lookup f) (88, ir88) := .inl ⟨rfl, Tryz.f19, [], Tryz.func19, by kernel_rfl, by kernel_rfl⟩
theorem good_51 : Go.Vm.Good Tryz.prog sid (fun f => fnIds.lookup f) (51, ir51) := .inl ⟨rfl, Tryz.f6, [], Tryz.func6, by kernel_rfl, by kernel_rfl⟩
theorem tab : FnTab Tryz.prog sid (fun f => fnIds.lookup f) Tb := fnTab_of fnIds sid_ok (by kernel_rfl) tbl (by
 unfold tbl
 intro p hp
 simp only [List.mem_cons, List.not_mem_nil, or_false] at hp
 rcases hp with rfl | rfl | rfl | rfl | rfl | rfl | rfl | rfl | rfl | rfl | rfl | rfl | rfl | rfl | rfl | rfl | rfl | rfl | rfl | rfl | rfl | rfl | rfl | rfl | rfl | rfl | rfl | rfl | rfl | rfl | rfl | rfl | rfl | rfl | rfl | rfl | rfl | rfl | rfl | rfl | rfl | rfl | rfl | rfl | rfl | rfl | rfl | rfl | rfl | rfl | rfl | rfl | rfl | rfl | rfl | rfl | rfl | rfl | rfl | rfl | rfl | rfl | rfl | rfl | rfl | rfl | rfl | rfl | rfl | rfl | rfl | rfl | rfl | rfl | rfl | rfl | rfl | rfl | rfl | rfl | rfl | rfl | rfl | rfl | rfl | rfl | rfl | rfl | rfl | rfl | rfl | rfl | rfl | rfl | rfl | rfl | rfl | rfl | rfl | rfl | rfl | rfl | rfl | rfl | rfl | rfl | rfl | rfl | rfl | rfl | rfl | rfl | rfl | rfl | rfl | rfl | rfl | rfl | rfl | rfl | rfl | rfl | rfl | rfl | rfl | rfl | rfl | rfl
 ·exact good_227
 ·exact good_56
 ·exact good_101
 ·exact good_76
 ·exact good_58
 ·exact good_103
 ·exact good_79
 ·exact good_60
 ·exact good_105
 ·exact good_1080
 ·exact good_1201
 ·exact good_1081
 ·exact good_228
 ·exact good_285
 ·exact good_286
 ·exact good_230
 ·exact good_292
 ·exact good_149
 ·exact good_280
 ·exact good_179
 ·exact good_232
 ·exact good_354
 ·exact good_302
 ·exact good_287
 ·exact good_150
 ·exact good_1087
 ·exact good_1172
 ·exact good_257
 ·exact good_231
 ·exact good_271
 ·exact good_142
 ·exact good_255
 ·exact good_377
 ·exact good_336
 ·exact good_340
 ·exact good_233
 ·exact good_351
 ·exact good_352
 ·exact good_290
 ·exact good_258
 ·exact good_113
 ·exact good_264
 ·exact good_299
 ·exact good_288
 ·exact good_68
 ·exact good_358
 ·exact good_359
 ·exact good_310
 ·exact good_311
 ·exact good_69
 ·exact good_174
 ·exact good_347
 ·exact good_266
 ·exact good_261
 ·exact good_182
 ·exact good_348
 ·exact good_268
 ·exact good_71
 ·exact good_120
 ·exact good_282
 ·exact good_283
 ·exact good_143
 ·exact good_127
 ·exact good_293
 ·exact good_151
 ·exact good_301
 ·exact good_160
 ·exact good_162
 ·exact good_256
 ·exact good_112
 ·exact good_306
 ·exact good_307
 ·exact good_168
 ·exact good_173
 ·exact good_295
 ·exact good_279
 ·exact good_196
 ·exact good_296
 ·exact good_362
 ·exact good_154
 ·exact good_210
 ·exact good_267
 ·exact good_119
 ·exact good_114
 ·exact good_349
 ·exact good_269
 ·exact good_341
 ·exact good_234
 ·exact good_235
 ·exact good_73
 ·exact good_121
 ·exact good_355
 ·exact good_304
 ·exact good_284
 ·exact good_144
 ·exact good_146
 ·exact good_118
 ·exact good_294
 ·exact good_152
 ·exact good_229
 ·exact good_291
 ·exact good_337
 ·exact good_223
 ·exact good_303
 ·exact good_161
 ·exact good_163
 ·exact good_180
 ·exact good_111
 ·exact good_356
 ·exact good_308
 ·exact good_357
 ·exact good_309
 ·exact good_169
 ·exact good_254
 ·exact good_211
 ·exact good_65
 ·exact good_321
 ·exact good_200
 ·exact good_78
 ·exact good_319
 ·exact good_197
 ·exact good_83
 ·exact good_320
 ·exact good_199
 ·exact good_85
 ·exact good_125
 ·exact good_88
 ·exact good_51)
set_option maxRecDepth 100000 in
theorem lifted (os : Os) (started : os.Started) (H : Type) (enc : TypeId × Value → H) :
  ReturnsInHanded {} Tryz.checked os 6 .any (Rows.fnExactDialOnceSpec.pre6 enc Tryz.prog Tryz.f6 Rows.fnExactDialOnceRow.domain false) (Rows.fnExactDialOnceSpec.post enc Tryz.prog Tryz.f6 false true false false) := by
 refine returnsInHanded_of_change (C := Tryz.checked) own started (by kernel_rfl) Tryz.func6
  (ChangeSpec.witness6 (enc := enc) (C := Tryz.checked) false ⟨#[], #[.agg #[.slice none 0 0, .slice none 0 0], .slice none 0 0, .slice none 0 0, .slice none 0 0, .int .i64 0], []⟩ 8 (by kernel_rfl) (by kernel_rfl) (by kernel_rfl) (by kernel_rfl)) ?_
 intro W base args ds gs before hval hW _ _
 exact law_contract (C := Tryz.checked) (modes := md) (m := 8) tab (g := 51) (fn := Tryz.f6) (ls := [(true, [.row [.int .i64], .row [.int .i64, .row [.int .i64]]]), (false, [.row [.int .i64, .row [.int .i64], .row [.int .i64], .bool]]), (false, [.row [.int .i64]]), (false, [.row [.int .i64]]), (false, [.int .i64])]) (by kernel_rfl) ans51 (s := Rows.fnExactDialOnceSpec) rfl (fun H ds h => by
   have h' : ds.length = 5 := h
   match ds, h' with
   | [_, _, _, _, _], _ => rfl) (tb := 4) (by kernel_rfl) (by kernel_rfl) laidOut (by
   intro t ht
   have key : ∀ t ∈ Tryz.f6.params.toList, Tryz.prog.readableRec t = true ∧ t < Tryz.prog.types.size := by
    rw [show Tryz.f6.params.toList = [25, 68, 22, 22, 3] by kernel_rfl]
    intro t ht
    simp only [List.mem_cons, List.not_mem_nil, or_false] at ht
    rcases ht with rfl | rfl | rfl | rfl | rfl <;> exact ⟨by kernel_rfl, of_decide_eq_true (by kernel_rfl)⟩
   exact key t ht) W base args ds gs before hval hW
theorem holds : Rows.FnExactDialOnceSaid :=
 OpenClaim.holds_of_wide 6 Tryz.f6 rfl rfl rfl rfl rfl rfl rfl ⟨rfl, rfl, rfl, rfl, rfl⟩ rfl rfl rfl rfl rfl (by kernel_rfl) Tryz.func6 (by kernel_rfl)
  (of_decide_eq_true (by kernel_rfl)) (by unfold Func.isWrapper; rw [if_neg (by decide +kernel)]; exact ⟨rfl, rfl⟩)
  (fun os started H enc _ => lifted os started H enc)
#print axioms holds
end Go.Proofs.YtijojkfdbpiimaaGreat
