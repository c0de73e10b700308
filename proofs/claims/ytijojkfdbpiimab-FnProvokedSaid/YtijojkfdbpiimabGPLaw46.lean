/- FnProvoked: whatever the input, the law returns true and each argument reads behind the call as it read before; no condition. -/
import Derived.Test.YtijojkfdbpiimabRows
import Derived.Test.YtijojkfdbpiimabGPN46
import Derived.Test.YtijojkfdbpiimabVmX
import Derived.ProofKit
set_option maxHeartbeats 4000000
set_option maxRecDepth 10000
set_option linter.unusedVariables false
set_option linter.unusedSimpArgs false
namespace Go.Proofs.Ytijojkfdbpiimab
open Go.ChangeShapes Go.WideShapes Go.ChangeAt Go.RowKit Go.Vm
def fnIds : List (Nat × Nat) := [(2, 2), (3, 40), (4, 43), (5, 46), (6, 52), (7, 108), (8, 183), (9, 184), (10, 113), (11, 142), (12, 171), (13, 148), (14, 185), (15, 131), (16, 104), (17, 150), (18, 186), (19, 187), (20, 188), (21, 189), (22, 193), (23, 163), (24, 158), (25, 194), (26, 177), (27, 195), (28, 169), (29, 161), (30, 111), (31, 178), (32, 179), (33, 152), (34, 202), (35, 203), (36, 204), (37, 64), (38, 94), (39, 212), (40, 213), (41, 214), (42, 215), (43, 216), (44, 217), (45, 218), (46, 219), (47, 220), (48, 314), (49, 261), (50, 255), (51, 258), (52, 257), (53, 271), (54, 182), (55, 77), (56, 287), (57, 288), (58, 289), (59, 290), (60, 291), (61, 229), (62, 273), (63, 243), (64, 244), (65, 59), (66, 232), (67, 167), (68, 165), (69, 318), (70, 294), (71, 304), (72, 298), (73, 299), (74, 246), (75, 162), (76, 3247), (77, 3317), (78, 3252), (79, 3315), (80, 3249), (81, 3251), (82, 308), (83, 309), (84, 118), (85, 302), (86, 303), (87, 180), (88, 322), (89, 211), (90, 325), (91, 326), (92, 327), (93, 328), (94, 329), (95, 3330), (96, 331), (97, 332), (98, 333), (99, 334), (100, 335), (101, 3313), (102, 266), (103, 233), (104, 230), (105, 231), (106, 286), (107, 174), (108, 351), (109, 352), (110, 350), (111, 343), (112, 264), (113, 305), (114, 355), (115, 293), (116, 3248), (117, 3344), (118, 3361), (119, 345), (120, 3316), (121, 356), (122, 337), (123, 357), (124, 354), (125, 223), (126, 3250), (127, 254), (128, 3363), (129, 3364), (130, 3365), (131, 366), (132, 367), (133, 368), (134, 369), (135, 370), (136, 371), (137, 372), (138, 3373), (139, 234), (140, 374), (141, 375), (142, 2346), (143, 376), (144, 3360), (145, 347), (146, 336), (147, 340), (148, 69), (149, 310), (150, 311), (151, 119), (152, 144), (153, 146), (154, 380), (155, 228), (156, 285), (157, 381), (158, 382), (159, 341), (160, 383), (161, 384), (162, 2378), (163, 379), (164, 377), (165, 358), (166, 359), (167, 267), (168, 114), (169, 73), (170, 284), (171, 121), (172, 2385), (173, 386), (174, 387), (175, 388), (176, 389), (177, 390), (178, 391), (179, 392), (180, 393), (181, 394), (182, 395), (183, 235), (184, 269), (185, 396), (186, 397), (187, 398), (188, 399), (189, 400), (190, 401), (191, 349), (192, 402)]
def sid (g : Nat) : Nat := ((fnIds.find? fun p => p.2 == g).map (·.1)).getD 0
theorem sid_ok : ∀ p ∈ fnIds, sid p.2 = p.1 := by decide +kernel
theorem own : ownKnob Try.prog.godebug = none := by kernel_rfl
theorem laidOut : laidOutB Try.prog = true := by kernel_rfl
def laysGrow_ren : Go.Shelf.Ren := ⟨fun | 4 => 114 | n => n, fun | 22 => 24 | 25 => 3 | 3 => 3 | 4 => 4 | 9 => 9 | 20 => 20 | 0 => 0 | n => n, fun | n => n⟩
theorem laysGrow : Go.Proofs.Lays8.n4 Try.prog laysGrow_ren := {
 mixed := by kernel_rfl
 f4 := ⟨Try.f114.name, by decide, Try.func114.trans (congrArg some (by kernel_rfl))⟩
 t0 := Try.underlying0
 a0 := Try.isAgg0
 z0 := Try.sizeOf0
 v0 := Try.zeroValue0
 t3 := Try.underlying3
 a3 := Try.isAgg3
 z3 := Try.sizeOf3
 v3 := Try.zeroValue3
 t4 := Try.underlying4
 a4 := Try.isAgg4
 z4 := Try.sizeOf4
 v4 := Try.zeroValue4
 t9 := Try.underlying9
 a9 := Try.isAgg9
 z9 := Try.sizeOf9
 v9 := Try.zeroValue9
 t20 := Try.underlying20
 a20 := Try.isAgg20
 z20 := Try.sizeOf20
 v20 := Try.zeroValue20
 t22 := Try.underlying24
 a22 := Try.isAgg24
 z22 := Try.sizeOf24
 v22 := Try.zeroValue24 }
theorem good_108 : Go.Vm.Good Try.prog sid (fun f => fnIds.lookup f) (108, ir108) := .inl ⟨rfl, Try.f7, [], Try.func7, by kernel_rfl, by kernel_rfl⟩
theorem good_228 : Go.Vm.Good Try.prog sid (fun f => fnIds.lookup f) (228, ir228) := .inl ⟨rfl, Try.f155, [], Try.func155, by kernel_rfl, by kernel_rfl⟩
theorem good_285 : Go.Vm.Good Try.prog sid (fun f => fnIds.lookup f) (285, ir285) := .inl ⟨rfl, Try.f156, [], Try.func156, by kernel_rfl, by kernel_rfl⟩
theorem good_286 : Go.Vm.Good Try.prog sid (fun f => fnIds.lookup f) (286, ir286) := .inl ⟨rfl, Try.f106, [], Try.func106, by kernel_rfl, by kernel_rfl⟩
theorem good_230 : Go.Vm.Good Try.prog sid (fun f => fnIds.lookup f) (230, ir230) := .inl ⟨rfl, Try.f104, [], Try.func104, by kernel_rfl, by kernel_rfl⟩
theorem good_179 : Go.Vm.Good Try.prog sid (fun f => fnIds.lookup f) (179, ir179) := .inl ⟨rfl, Try.f32, [], Try.func32, by kernel_rfl, by kernel_rfl⟩
theorem good_232 : Go.Vm.Good Try.prog sid (fun f => fnIds.lookup f) (232, ir232) := .inl ⟨rfl, Try.f66, [], Try.func66, by kernel_rfl, by kernel_rfl⟩
theorem good_354 : Go.Vm.Good Try.prog sid (fun f => fnIds.lookup f) (354, ir354) := .inl ⟨rfl, Try.f124, [], Try.func124, by kernel_rfl, by kernel_rfl⟩
theorem good_302 : Go.Vm.Good Try.prog sid (fun f => fnIds.lookup f) (302, ir302) := .inl ⟨rfl, Try.f85, [], Try.func85, by kernel_rfl, by kernel_rfl⟩
theorem good_287 : Go.Vm.Good Try.prog sid (fun f => fnIds.lookup f) (287, ir287) := .inl ⟨rfl, Try.f56, [], Try.func56, by kernel_rfl, by kernel_rfl⟩
theorem good_150 : Go.Vm.Good Try.prog sid (fun f => fnIds.lookup f) (150, ir150) := .inl ⟨rfl, Try.f17, [], Try.func17, by kernel_rfl, by kernel_rfl⟩
theorem good_229 : Go.Vm.Good Try.prog sid (fun f => fnIds.lookup f) (229, ir229) := .inl ⟨rfl, Try.f61, [], Try.func61, by kernel_rfl, by kernel_rfl⟩
theorem good_177 : Go.Vm.Good Try.prog sid (fun f => fnIds.lookup f) (177, ir177) := .inl ⟨rfl, Try.f26, [], Try.func26, by kernel_rfl, by kernel_rfl⟩
theorem good_246 : Go.Vm.Good Try.prog sid (fun f => fnIds.lookup f) (246, ir246) := .inl ⟨rfl, Try.f74, [], Try.func74, by kernel_rfl, by kernel_rfl⟩
theorem good_257 : Go.Vm.Good Try.prog sid (fun f => fnIds.lookup f) (257, ir257) := .inl ⟨rfl, Try.f52, [], Try.func52, by kernel_rfl, by kernel_rfl⟩
theorem good_345 : Go.Vm.Good Try.prog sid (fun f => fnIds.lookup f) (345, ir345) := .inl ⟨rfl, Try.f119, [], Try.func119, by kernel_rfl, by kernel_rfl⟩
theorem good_3361 : Go.Vm.Good Try.prog sid (fun f => fnIds.lookup f) (3361, ir3361) := .inl ⟨rfl, Try.f118, [.mbox], Try.func118, by kernel_rfl, by kernel_rfl⟩
theorem good_3317 : Go.Vm.Good Try.prog sid (fun f => fnIds.lookup f) (3317, ir3317) := .inl ⟨rfl, Try.f77, [.mbox], Try.func77, by kernel_rfl, by kernel_rfl⟩
theorem good_3252 : Go.Vm.Good Try.prog sid (fun f => fnIds.lookup f) (3252, ir3252) := .inl ⟨rfl, Try.f78, [.mbox], Try.func78, by kernel_rfl, by kernel_rfl⟩
theorem good_3248 : Go.Vm.Good Try.prog sid (fun f => fnIds.lookup f) (3248, ir3248) := .inl ⟨rfl, Try.f116, [.mbox], Try.func116, by kernel_rfl, by kernel_rfl⟩
theorem good_3344 : Go.Vm.Good Try.prog sid (fun f => fnIds.lookup f) (3344, ir3344) := .inl ⟨rfl, Try.f117, [.mbox], Try.func117, by kernel_rfl, by kernel_rfl⟩
theorem good_3247 : Go.Vm.Good Try.prog sid (fun f => fnIds.lookup f) (3247, ir3247) := .inl ⟨rfl, Try.f76, [.mbox], Try.func76, by kernel_rfl, by kernel_rfl⟩
theorem good_3249 : Go.Vm.Good Try.prog sid (fun f => fnIds.lookup f) (3249, ir3249) := .inl ⟨rfl, Try.f80, [.mbox], Try.func80, by kernel_rfl, by kernel_rfl⟩
theorem good_3315 : Go.Vm.Good Try.prog sid (fun f => fnIds.lookup f) (3315, ir3315) := .inl ⟨rfl, Try.f79, [.mbox], Try.func79, by kernel_rfl, by kernel_rfl⟩
theorem good_3316 : Go.Vm.Good Try.prog sid (fun f => fnIds.lookup f) (3316, ir3316) := .inl ⟨rfl, Try.f120, [.mbox], Try.func120, by kernel_rfl, by kernel_rfl⟩
theorem good_3251 : Go.Vm.Good Try.prog sid (fun f => fnIds.lookup f) (3251, ir3251) := .inl ⟨rfl, Try.f81, [.mbox], Try.func81, by kernel_rfl, by kernel_rfl⟩
theorem good_3360 : Go.Vm.Good Try.prog sid (fun f => fnIds.lookup f) (3360, ir3360) := .inl ⟨rfl, Try.f144, [.mbox], Try.func144, by kernel_rfl, by kernel_rfl⟩
theorem good_3313 : Go.Vm.Good Try.prog sid (fun f => fnIds.lookup f) (3313, ir3313) := .inl ⟨rfl, Try.f101, [.mbox], Try.func101, by kernel_rfl, by kernel_rfl⟩
theorem good_3250 : Go.Vm.Good Try.prog sid (fun f => fnIds.lookup f) (3250, ir3250) := .inl ⟨rfl, Try.f126, [.mbox], Try.func126, by kernel_rfl, by kernel_rfl⟩
theorem good_322 : Go.Vm.Good Try.prog sid (fun f => fnIds.lookup f) (322, ir322) := .inl ⟨rfl, Try.f88, [], Try.func88, by kernel_rfl, by kernel_rfl⟩
theorem good_202 : Go.Vm.Good Try.prog sid (fun f => fnIds.lookup f) (202, ir202) := .inl ⟨rfl, Try.f34, [], Try.func34, by kernel_rfl, by kernel_rfl⟩
theorem good_231 : Go.Vm.Good Try.prog sid (fun f => fnIds.lookup f) (231, ir231) := .inl ⟨rfl, Try.f105, [], Try.func105, by kernel_rfl, by kernel_rfl⟩
theorem good_271 : Go.Vm.Good Try.prog sid (fun f => fnIds.lookup f) (271, ir271) := .inl ⟨rfl, Try.f53, [], Try.func53, by kernel_rfl, by kernel_rfl⟩
theorem good_142 : Go.Vm.Good Try.prog sid (fun f => fnIds.lookup f) (142, ir142) := .inl ⟨rfl, Try.f11, [], Try.func11, by kernel_rfl, by kernel_rfl⟩
theorem good_255 : Go.Vm.Good Try.prog sid (fun f => fnIds.lookup f) (255, ir255) := .inl ⟨rfl, Try.f50, [], Try.func50, by kernel_rfl, by kernel_rfl⟩
theorem good_377 : Go.Vm.Good Try.prog sid (fun f => fnIds.lookup f) (377, ir377) := .inl ⟨rfl, Try.f164, [], Try.func164, by kernel_rfl, by kernel_rfl⟩
theorem good_336 : Go.Vm.Good Try.prog sid (fun f => fnIds.lookup f) (336, ir336) := .inl ⟨rfl, Try.f146, [], Try.func146, by kernel_rfl, by kernel_rfl⟩
theorem good_340 : Go.Vm.Good Try.prog sid (fun f => fnIds.lookup f) (340, ir340) := .inl ⟨rfl, Try.f147, [], Try.func147, by kernel_rfl, by kernel_rfl⟩
theorem good_233 : Go.Vm.Good Try.prog sid (fun f => fnIds.lookup f) (233, ir233) := .inl ⟨rfl, Try.f103, [], Try.func103, by kernel_rfl, by kernel_rfl⟩
theorem good_351 : Go.Vm.Good Try.prog sid (fun f => fnIds.lookup f) (351, ir351) := .inl ⟨rfl, Try.f108, [], Try.func108, by kernel_rfl, by kernel_rfl⟩
theorem good_352 : Go.Vm.Good Try.prog sid (fun f => fnIds.lookup f) (352, ir352) := .inl ⟨rfl, Try.f109, [], Try.func109, by kernel_rfl, by kernel_rfl⟩
theorem good_290 : Go.Vm.Good Try.prog sid (fun f => fnIds.lookup f) (290, ir290) := .inl ⟨rfl, Try.f59, [], Try.func59, by kernel_rfl, by kernel_rfl⟩
theorem good_258 : Go.Vm.Good Try.prog sid (fun f => fnIds.lookup f) (258, ir258) := .inl ⟨rfl, Try.f51, [], Try.func51, by kernel_rfl, by kernel_rfl⟩
theorem good_113 : Go.Vm.Good Try.prog sid (fun f => fnIds.lookup f) (113, ir113) := .inl ⟨rfl, Try.f10, [], Try.func10, by kernel_rfl, by kernel_rfl⟩
theorem good_291 : Go.Vm.Good Try.prog sid (fun f => fnIds.lookup f) (291, ir291) := .inl ⟨rfl, Try.f60, [], Try.func60, by kernel_rfl, by kernel_rfl⟩
theorem good_350 : Go.Vm.Good Try.prog sid (fun f => fnIds.lookup f) (350, ir350) := .inl ⟨rfl, Try.f110, [], Try.func110, by kernel_rfl, by kernel_rfl⟩
theorem good_273 : Go.Vm.Good Try.prog sid (fun f => fnIds.lookup f) (273, ir273) := .inl ⟨rfl, Try.f62, [], Try.func62, by kernel_rfl, by kernel_rfl⟩
theorem good_131 : Go.Vm.Good Try.prog sid (fun f => fnIds.lookup f) (131, ir131) := .inl ⟨rfl, Try.f15, [], Try.func15, by kernel_rfl, by kernel_rfl⟩
theorem good_264 : Go.Vm.Good Try.prog sid (fun f => fnIds.lookup f) (264, ir264) := .inl ⟨rfl, Try.f112, [], Try.func112, by kernel_rfl, by kernel_rfl⟩
theorem good_299 : Go.Vm.Good Try.prog sid (fun f => fnIds.lookup f) (299, ir299) := clone_seat sid_ok (by kernel_rfl) rfl Try.func73 (by kernel_rfl) (by kernel_rfl) (by kernel_rfl) (by kernel_rfl) (by kernel_rfl) (by kernel_rfl) (by kernel_rfl) (by kernel_rfl) (by kernel_rfl) (by kernel_rfl) (by kernel_rfl) (by kernel_rfl) (by kernel_rfl) (by kernel_rfl)
theorem good_288 : Go.Vm.Good Try.prog sid (fun f => fnIds.lookup f) (288, ir288) := .inl ⟨rfl, Try.f57, [], Try.func57, by kernel_rfl, by kernel_rfl⟩
theorem good_358 : Go.Vm.Good Try.prog sid (fun f => fnIds.lookup f) (358, ir358) := .inl ⟨rfl, Try.f165, [], Try.func165, by kernel_rfl, by kernel_rfl⟩
theorem good_359 : Go.Vm.Good Try.prog sid (fun f => fnIds.lookup f) (359, ir359) := .inl ⟨rfl, Try.f166, [], Try.func166, by kernel_rfl, by kernel_rfl⟩
theorem good_310 : Go.Vm.Good Try.prog sid (fun f => fnIds.lookup f) (310, ir310) := .inl ⟨rfl, Try.f149, [], Try.func149, by kernel_rfl, by kernel_rfl⟩
theorem good_311 : Go.Vm.Good Try.prog sid (fun f => fnIds.lookup f) (311, ir311) := .inl ⟨rfl, Try.f150, [], Try.func150, by kernel_rfl, by kernel_rfl⟩
theorem good_69 : Go.Vm.Good Try.prog sid (fun f => fnIds.lookup f) (69, ir69) := .inl ⟨rfl, Try.f148, [], Try.func148, by kernel_rfl, by kernel_rfl⟩
theorem good_174 : Go.Vm.Good Try.prog sid (fun f => fnIds.lookup f) (174, ir174) := .inl ⟨rfl, Try.f107, [], Try.func107, by kernel_rfl, by kernel_rfl⟩
theorem good_347 : Go.Vm.Good Try.prog sid (fun f => fnIds.lookup f) (347, ir347) := .inl ⟨rfl, Try.f145, [], Try.func145, by kernel_rfl, by kernel_rfl⟩
theorem good_266 : Go.Vm.Good Try.prog sid (fun f => fnIds.lookup f) (266, ir266) := .inl ⟨rfl, Try.f102, [], Try.func102, by kernel_rfl, by kernel_rfl⟩
theorem good_261 : Go.Vm.Good Try.prog sid (fun f => fnIds.lookup f) (261, ir261) := .inl ⟨rfl, Try.f49, [], Try.func49, by kernel_rfl, by kernel_rfl⟩
theorem good_182 : Go.Vm.Good Try.prog sid (fun f => fnIds.lookup f) (182, ir182) := .inl ⟨rfl, Try.f54, [], Try.func54, by kernel_rfl, by kernel_rfl⟩
theorem good_185 : Go.Vm.Good Try.prog sid (fun f => fnIds.lookup f) (185, ir185) := .inl ⟨rfl, Try.f14, [], Try.func14, by kernel_rfl, by kernel_rfl⟩
theorem good_305 : Go.Vm.Good Try.prog sid (fun f => fnIds.lookup f) (305, ir305) := .inl ⟨rfl, Try.f113, [], Try.func113, by kernel_rfl, by kernel_rfl⟩
theorem good_165 : Go.Vm.Good Try.prog sid (fun f => fnIds.lookup f) (165, ir165) := .inl ⟨rfl, Try.f68, [], Try.func68, by kernel_rfl, by kernel_rfl⟩
theorem good_77 : Go.Vm.Good Try.prog sid (fun f => fnIds.lookup f) (77, ir77) := .inl ⟨rfl, Try.f55, [], Try.func55, by kernel_rfl, by kernel_rfl⟩
theorem good_171 : Go.Vm.Good Try.prog sid (fun f => fnIds.lookup f) (171, ir171) := .inl ⟨rfl, Try.f12, [], Try.func12, by kernel_rfl, by kernel_rfl⟩
theorem good_167 : Go.Vm.Good Try.prog sid (fun f => fnIds.lookup f) (167, ir167) := .inl ⟨rfl, Try.f67, [], Try.func67, by kernel_rfl, by kernel_rfl⟩
theorem good_186 : Go.Vm.Good Try.prog sid (fun f => fnIds.lookup f) (186, ir186) := .inl ⟨rfl, Try.f18, [], Try.func18, by kernel_rfl, by kernel_rfl⟩
theorem good_189 : Go.Vm.Good Try.prog sid (fun f => fnIds.lookup f) (189, ir189) := .inl ⟨rfl, Try.f21, [], Try.func21, by kernel_rfl, by kernel_rfl⟩
theorem good_184 : Go.Vm.Good Try.prog sid (fun f => fnIds.lookup f) (184, ir184) := .inl ⟨rfl, Try.f9, [], Try.func9, by kernel_rfl, by kernel_rfl⟩
theorem good_293 : Go.Vm.Good Try.prog sid (fun f => fnIds.lookup f) (293, ir293) := .inl ⟨rfl, Try.f115, [], Try.func115, by kernel_rfl, by kernel_rfl⟩
theorem good_162 : Go.Vm.Good Try.prog sid (fun f => fnIds.lookup f) (162, ir162) := .inl ⟨rfl, Try.f75, [], Try.func75, by kernel_rfl, by kernel_rfl⟩
theorem good_267 : Go.Vm.Good Try.prog sid (fun f => fnIds.lookup f) (267, ir267) := .inl ⟨rfl, Try.f167, [], Try.func167, by kernel_rfl, by kernel_rfl⟩
theorem good_119 : Go.Vm.Good Try.prog sid (fun f => fnIds.lookup f) (119, ir119) := .inl ⟨rfl, Try.f151, [], Try.func151, by kernel_rfl, by kernel_rfl⟩
theorem good_114 : Go.Vm.Good Try.prog sid (fun f => fnIds.lookup f) (114, ir114) := .inl ⟨rfl, Try.f168, [], Try.func168, by kernel_rfl, by kernel_rfl⟩
theorem good_349 : Go.Vm.Good Try.prog sid (fun f => fnIds.lookup f) (349, ir349) := .inl ⟨rfl, Try.f191, [], Try.func191, by kernel_rfl, by kernel_rfl⟩
theorem good_269 : Go.Vm.Good Try.prog sid (fun f => fnIds.lookup f) (269, ir269) := .inl ⟨rfl, Try.f184, [], Try.func184, by kernel_rfl, by kernel_rfl⟩
theorem good_341 : Go.Vm.Good Try.prog sid (fun f => fnIds.lookup f) (341, ir341) := .inl ⟨rfl, Try.f159, [], Try.func159, by kernel_rfl, by kernel_rfl⟩
theorem good_234 : Go.Vm.Good Try.prog sid (fun f => fnIds.lookup f) (234, ir234) := .inl ⟨rfl, Try.f139, [], Try.func139, by kernel_rfl, by kernel_rfl⟩
theorem good_235 : Go.Vm.Good Try.prog sid (fun f => fnIds.lookup f) (235, ir235) := .inl ⟨rfl, Try.f183, [], Try.func183, by kernel_rfl, by kernel_rfl⟩
theorem good_73 : Go.Vm.Good Try.prog sid (fun f => fnIds.lookup f) (73, ir73) := .inl ⟨rfl, Try.f169, [], Try.func169, by kernel_rfl, by kernel_rfl⟩
theorem good_121 : Go.Vm.Good Try.prog sid (fun f => fnIds.lookup f) (121, ir121) := .inl ⟨rfl, Try.f171, [], Try.func171, by kernel_rfl, by kernel_rfl⟩
theorem good_355 : Go.Vm.Good Try.prog sid (fun f => fnIds.lookup f) (355, ir355) := grow_seat (i0 := Try.t3) (z := .int .i64 0) laysGrow rfl (by kernel_rfl) (by kernel_rfl) (by kernel_rfl) (by kernel_rfl) (by decide) (by kernel_rfl)
theorem good_304 : Go.Vm.Good Try.prog sid (fun f => fnIds.lookup f) (304, ir304) := .inl ⟨rfl, Try.f71, [], Try.func71, by kernel_rfl, by kernel_rfl⟩
theorem good_284 : Go.Vm.Good Try.prog sid (fun f => fnIds.lookup f) (284, ir284) := .inl ⟨rfl, Try.f170, [], Try.func170, by kernel_rfl, by kernel_rfl⟩
theorem good_144 : Go.Vm.Good Try.prog sid (fun f => fnIds.lookup f) (144, ir144) := .inl ⟨rfl, Try.f152, [], Try.func152, by kernel_rfl, by kernel_rfl⟩
theorem good_146 : Go.Vm.Good Try.prog sid (fun f => fnIds.lookup f) (146, ir146) := .inl ⟨rfl, Try.f153, [], Try.func153, by kernel_rfl, by kernel_rfl⟩
theorem good_118 : Go.Vm.Good Try.prog sid (fun f => fnIds.lookup f) (118, ir118) := .inl ⟨rfl, Try.f84, [], Try.func84, by kernel_rfl, by kernel_rfl⟩
theorem good_294 : Go.Vm.Good Try.prog sid (fun f => fnIds.lookup f) (294, ir294) := .inl ⟨rfl, Try.f70, [], Try.func70, by kernel_rfl, by kernel_rfl⟩
theorem good_152 : Go.Vm.Good Try.prog sid (fun f => fnIds.lookup f) (152, ir152) := .inl ⟨rfl, Try.f33, [], Try.func33, by kernel_rfl, by kernel_rfl⟩
theorem good_289 : Go.Vm.Good Try.prog sid (fun f => fnIds.lookup f) (289, ir289) := .inl ⟨rfl, Try.f58, [], Try.func58, by kernel_rfl, by kernel_rfl⟩
theorem good_148 : Go.Vm.Good Try.prog sid (fun f => fnIds.lookup f) (148, ir148) := .inl ⟨rfl, Try.f13, [], Try.func13, by kernel_rfl, by kernel_rfl⟩
theorem good_337 : Go.Vm.Good Try.prog sid (fun f => fnIds.lookup f) (337, ir337) := .inl ⟨rfl, Try.f122, [], Try.func122, by kernel_rfl, by kernel_rfl⟩
theorem good_223 : Go.Vm.Good Try.prog sid (fun f => fnIds.lookup f) (223, ir223) := .inl ⟨rfl, Try.f125, [], Try.func125, by kernel_rfl, by kernel_rfl⟩
theorem good_303 : Go.Vm.Good Try.prog sid (fun f => fnIds.lookup f) (303, ir303) := .inl ⟨rfl, Try.f86, [], Try.func86, by kernel_rfl, by kernel_rfl⟩
theorem good_161 : Go.Vm.Good Try.prog sid (fun f => fnIds.lookup f) (161, ir161) := .inl ⟨rfl, Try.f29, [], Try.func29, by kernel_rfl, by kernel_rfl⟩
theorem good_163 : Go.Vm.Good Try.prog sid (fun f => fnIds.lookup f) (163, ir163) := .inl ⟨rfl, Try.f23, [], Try.func23, by kernel_rfl, by kernel_rfl⟩
theorem good_180 : Go.Vm.Good Try.prog sid (fun f => fnIds.lookup f) (180, ir180) := .inl ⟨rfl, Try.f87, [], Try.func87, by kernel_rfl, by kernel_rfl⟩
theorem good_111 : Go.Vm.Good Try.prog sid (fun f => fnIds.lookup f) (111, ir111) := .inl ⟨rfl, Try.f30, [], Try.func30, by kernel_rfl, by kernel_rfl⟩
theorem good_356 : Go.Vm.Good Try.prog sid (fun f => fnIds.lookup f) (356, ir356) := .inl ⟨rfl, Try.f121, [], Try.func121, by kernel_rfl, by kernel_rfl⟩
theorem good_308 : Go.Vm.Good Try.prog sid (fun f => fnIds.lookup f) (308, ir308) := .inl ⟨rfl, Try.f82, [], Try.func82, by kernel_rfl, by kernel_rfl⟩
theorem good_357 : Go.Vm.Good Try.prog sid (fun f => fnIds.lookup f) (357, ir357) := .inl ⟨rfl, Try.f123, [], Try.func123, by kernel_rfl, by kernel_rfl⟩
theorem good_309 : Go.Vm.Good Try.prog sid (fun f => fnIds.lookup f) (309, ir309) := .inl ⟨rfl, Try.f83, [], Try.func83, by kernel_rfl, by kernel_rfl⟩
theorem good_169 : Go.Vm.Good Try.prog sid (fun f => fnIds.lookup f) (169, ir169) := .inl ⟨rfl, Try.f28, [], Try.func28, by kernel_rfl, by kernel_rfl⟩
theorem good_254 : Go.Vm.Good Try.prog sid (fun f => fnIds.lookup f) (254, ir254) := .inl ⟨rfl, Try.f127, [], Try.func127, by kernel_rfl, by kernel_rfl⟩
theorem good_211 : Go.Vm.Good Try.prog sid (fun f => fnIds.lookup f) (211, ir211) := .inl ⟨rfl, Try.f89, [], Try.func89, by kernel_rfl, by kernel_rfl⟩
theorem good_204 : Go.Vm.Good Try.prog sid (fun f => fnIds.lookup f) (204, ir204) := .inl ⟨rfl, Try.f36, [], Try.func36, by kernel_rfl, by kernel_rfl⟩
theorem good_203 : Go.Vm.Good Try.prog sid (fun f => fnIds.lookup f) (203, ir203) := .inl ⟨rfl, Try.f35, [], Try.func35, by kernel_rfl, by kernel_rfl⟩
theorem good_64 : Go.Vm.Good Try.prog sid (fun f => fnIds.lookup f) (64, ir64) := .inl ⟨rfl, Try.f37, [], Try.func37, by kernel_rfl, by kernel_rfl⟩
theorem good_94 : Go.Vm.Good Try.prog sid (fun f => fnIds.lookup f) (94, ir94) := .inl ⟨rfl, Try.f38, [], Try.func38, by kernel_rfl, by kernel_rfl⟩
theorem good_46 : Go.Vm.Good Try.prog sid (fun f => fnIds.lookup f) (46, ir46) := .inl ⟨rfl, Try.f5, [], Try.func5, by kernel_rfl, by kernel_rfl⟩
theorem tab : FnTab Try.prog sid (fun f => fnIds.lookup f) Tb := fnTab_of fnIds sid_ok (by kernel_rfl) tbl (by
 unfold tbl
 intro p hp
 simp only [List.mem_cons, List.not_mem_nil, or_false] at hp
 rcases hp with rfl | rfl | rfl | rfl | rfl | rfl | rfl | rfl | rfl | rfl | rfl | rfl | rfl | rfl | rfl | rfl | rfl | rfl | rfl | rfl | rfl | rfl | rfl | rfl | rfl | rfl | rfl | rfl | rfl | rfl | rfl | rfl | rfl | rfl | rfl | rfl | rfl | rfl | rfl | rfl | rfl | rfl | rfl | rfl | rfl | rfl | rfl | rfl | rfl | rfl | rfl | rfl | rfl | rfl | rfl | rfl | rfl | rfl | rfl | rfl | rfl | rfl | rfl | rfl | rfl | rfl | rfl | rfl | rfl | rfl | rfl | rfl | rfl | rfl | rfl | rfl | rfl | rfl | rfl | rfl | rfl | rfl | rfl | rfl | rfl | rfl | rfl | rfl | rfl | rfl | rfl | rfl | rfl | rfl | rfl | rfl | rfl | rfl | rfl | rfl | rfl | rfl | rfl | rfl | rfl | rfl | rfl | rfl | rfl | rfl | rfl
 ·exact good_108
 ·exact good_228
 ·exact good_285
 ·exact good_286
 ·exact good_230
 ·exact good_179
 ·exact good_232
 ·exact good_354
 ·exact good_302
 ·exact good_287
 ·exact good_150
 ·exact good_229
 ·exact good_177
 ·exact good_246
 ·exact good_257
 ·exact good_345
 ·exact good_3361
 ·exact good_3317
 ·exact good_3252
 ·exact good_3248
 ·exact good_3344
 ·exact good_3247
 ·exact good_3249
 ·exact good_3315
 ·exact good_3316
 ·exact good_3251
 ·exact good_3360
 ·exact good_3313
 ·exact good_3250
 ·exact good_322
 ·exact good_202
 ·exact good_231
 ·exact good_271
 ·exact good_142
 ·exact good_255
 ·exact good_377
 ·exact good_336
 ·exact good_340
 ·exact good_233
 ·exact good_351
 ·exact good_352
 ·exact good_290
 ·exact good_258
 ·exact good_113
 ·exact good_291
 ·exact good_350
 ·exact good_273
 ·exact good_131
 ·exact good_264
 ·exact good_299
 ·exact good_288
 ·exact good_358
 ·exact good_359
 ·exact good_310
 ·exact good_311
 ·exact good_69
 ·exact good_174
 ·exact good_347
 ·exact good_266
 ·exact good_261
 ·exact good_182
 ·exact good_185
 ·exact good_305
 ·exact good_165
 ·exact good_77
 ·exact good_171
 ·exact good_167
 ·exact good_186
 ·exact good_189
 ·exact good_184
 ·exact good_293
 ·exact good_162
 ·exact good_267
 ·exact good_119
 ·exact good_114
 ·exact good_349
 ·exact good_269
 ·exact good_341
 ·exact good_234
 ·exact good_235
 ·exact good_73
 ·exact good_121
 ·exact good_355
 ·exact good_304
 ·exact good_284
 ·exact good_144
 ·exact good_146
 ·exact good_118
 ·exact good_294
 ·exact good_152
 ·exact good_289
 ·exact good_148
 ·exact good_337
 ·exact good_223
 ·exact good_303
 ·exact good_161
 ·exact good_163
 ·exact good_180
 ·exact good_111
 ·exact good_356
 ·exact good_308
 ·exact good_357
 ·exact good_309
 ·exact good_169
 ·exact good_254
 ·exact good_211
 ·exact good_204
 ·exact good_203
 ·exact good_64
 ·exact good_94
 ·exact good_46)
set_option maxRecDepth 100000 in
theorem lifted (os : Os) (started : os.Started) (H : Type) (enc : TypeId × Value → H) :
  ReturnsInHanded {} Try.checked os 5 .any (Rows.fnProvokedSpec.pre6 enc Try.prog Try.f5 Rows.fnProvokedRow.domain false) (Rows.fnProvokedSpec.post enc Try.prog Try.f5 false true false false) := by
 refine returnsInHanded_of_change (C := Try.checked) own started (by kernel_rfl) Try.func5
  (ChangeSpec.witness6 (enc := enc) (C := Try.checked) false ⟨#[], #[.slice none 0 0], []⟩ 8 (by kernel_rfl) (by kernel_rfl) (by kernel_rfl) (by kernel_rfl)) ?_
 intro W base args ds gs before hval hW _ _
 exact law_contract (C := Try.checked) (modes := md) (m := 8) tab (g := 46) (fn := Try.f5) (ls := [(false, [.row [.int .u8]])]) (by kernel_rfl) ans46 (s := Rows.fnProvokedSpec) rfl (fun H ds h => by
   have h' : ds.length = 1 := h
   match ds, h' with
   | [_], _ => rfl) (tb := 4) (by kernel_rfl) (by kernel_rfl) laidOut (by
   intro t ht
   have key : ∀ t ∈ Try.f5.params.toList, Try.prog.readableRec t = true ∧ t < Try.prog.types.size := by
    rw [show Try.f5.params.toList = [22] by kernel_rfl]
    intro t ht
    simp only [List.mem_cons, List.not_mem_nil, or_false] at ht
    rcases ht with rfl <;> exact ⟨by kernel_rfl, of_decide_eq_true (by kernel_rfl)⟩
   exact key t ht) W base args ds gs before hval hW
theorem holds : Rows.FnProvokedSaid :=
 OpenClaim.holds_of_wide 5 Try.f5 rfl rfl rfl rfl rfl rfl rfl ⟨rfl, rfl, rfl, rfl, rfl⟩ rfl rfl rfl rfl rfl (by kernel_rfl) Try.func5 (by kernel_rfl)
  (of_decide_eq_true (by kernel_rfl)) (by unfold Func.isWrapper; rw [if_neg (by decide +kernel)]; exact ⟨rfl, rfl⟩)
  (fun os started H enc _ => lifted os started H enc)
#print axioms holds
end Go.Proofs.Ytijojkfdbpiimab
