/- FnExactHelloFor: whatever the input, the law returns true and each argument reads behind the call as it read before; no condition. -/
import Derived.Test.YtokkeikhghanpaaRows
import Derived.Test.YtokkeikhghanpaaGAN49
import Derived.ProofKit
set_option maxHeartbeats 4000000
set_option maxRecDepth 10000
set_option linter.unusedVariables false
set_option linter.unusedSimpArgs false
namespace Go.Proofs.Ytokkeikhghanpaa
open Go.ChangeShapes Go.WideShapes Go.ChangeAt Go.RowKit Go.Vm
def fnIds : List (Nat × Nat) := [(2, 2), (3, 36), (4, 37), (5, 38), (6, 42), (7, 44), (8, 45), (9, 47), (10, 48), (11, 49), (12, 83), (13, 168), (14, 76), (15, 85), (16, 169), (17, 129), (18, 79), (19, 78), (20, 1080), (21, 1081), (22, 1153), (23, 156), (24, 101), (25, 170), (26, 103), (27, 171), (28, 105), (29, 1172), (30, 125), (31, 56), (32, 173), (33, 58), (34, 174), (35, 60), (36, 1175), (37, 82), (38, 192), (39, 185), (40, 196), (41, 182), (42, 197), (43, 198), (44, 199), (45, 186), (46, 200), (47, 1201), (48, 205), (49, 189), (50, 206), (51, 207), (52, 208), (53, 184), (54, 227), (55, 112), (56, 142), (57, 306), (58, 307), (59, 111), (60, 113), (61, 308), (62, 309), (63, 236), (64, 257), (65, 166), (66, 255), (67, 77), (68, 68), (69, 285), (70, 230), (71, 69), (72, 310), (73, 299), (74, 264), (75, 311), (76, 302), (77, 130), (78, 131), (79, 279), (80, 261), (81, 319), (82, 271), (83, 75), (84, 272), (85, 320), (86, 167), (87, 258), (88, 321), (89, 164), (90, 292), (91, 165), (92, 287), (93, 256), (94, 301), (95, 180), (96, 356), (97, 337), (98, 357), (99, 232), (100, 231), (101, 233), (102, 358), (103, 288), (104, 359), (105, 354), (106, 228), (107, 229), (108, 273), (109, 295), (110, 266), (111, 286), (112, 290), (113, 305), (114, 336), (115, 340), (116, 351), (117, 350), (118, 291), (119, 280), (120, 347), (121, 352), (122, 377)]
def sid (g : Nat) : Nat := ((fnIds.find? fun p => p.2 == g).map (·.1)).getD 0
theorem sid_ok : ∀ p ∈ fnIds, sid p.2 = p.1 := by decide +kernel
theorem own : ownKnob Try.prog.godebug = none := by kernel_rfl
theorem laidOut : laidOutB Try.prog = true := by kernel_rfl
theorem good_227 : Go.Vm.Good Try.prog sid (fun f => fnIds.lookup f) (227, ir227) := .inl ⟨rfl, Try.f54, [], Try.func54, by kernel_rfl, by kernel_rfl⟩
theorem good_56 : Go.Vm.Good Try.prog sid (fun f => fnIds.lookup f) (56, ir56) := .inl ⟨rfl, Try.f31, [], Try.func31, by kernel_rfl, by kernel_rfl⟩
theorem good_101 : Go.Vm.Good Try.prog sid (fun f => fnIds.lookup f) (101, ir101) := .inl ⟨rfl, Try.f24, [], Try.func24, by kernel_rfl, by kernel_rfl⟩
theorem good_76 : Go.Vm.Good Try.prog sid (fun f => fnIds.lookup f) (76, ir76) := .inl ⟨rfl, Try.f14, [], Try.func14, by kernel_rfl, by kernel_rfl⟩
theorem good_58 : Go.Vm.Good Try.prog sid (fun f => fnIds.lookup f) (58, ir58) := .inl ⟨rfl, Try.f33, [], Try.func33, by kernel_rfl, by kernel_rfl⟩
theorem good_103 : Go.Vm.Good Try.prog sid (fun f => fnIds.lookup f) (103, ir103) := .inl ⟨rfl, Try.f26, [], Try.func26, by kernel_rfl, by kernel_rfl⟩
theorem good_79 : Go.Vm.Good Try.prog sid (fun f => fnIds.lookup f) (79, ir79) := .inl ⟨rfl, Try.f18, [], Try.func18, by kernel_rfl, by kernel_rfl⟩
theorem good_60 : Go.Vm.Good Try.prog sid (fun f => fnIds.lookup f) (60, ir60) := .inl ⟨rfl, Try.f35, [], Try.func35, by kernel_rfl, by kernel_rfl⟩
theorem good_105 : Go.Vm.Good Try.prog sid (fun f => fnIds.lookup f) (105, ir105) := .inl ⟨rfl, Try.f28, [], Try.func28, by kernel_rfl, by kernel_rfl⟩
theorem good_1080 : Go.Vm.Good Try.prog sid (fun f => fnIds.lookup f) (1080, ir1080) := .inl ⟨rfl, Try.f20, [.mrow, .val], Try.func20, by kernel_rfl, by kernel_rfl⟩
theorem good_1172 : Go.Vm.Good Try.prog sid (fun f => fnIds.lookup f) (1172, ir1172) := .inl ⟨rfl, Try.f29, [.mrow, .val], Try.func29, by kernel_rfl, by kernel_rfl⟩
theorem good_1201 : Go.Vm.Good Try.prog sid (fun f => fnIds.lookup f) (1201, ir1201) := .inl ⟨rfl, Try.f47, [.mrow, .val], Try.func47, by kernel_rfl, by kernel_rfl⟩
theorem good_125 : Go.Vm.Good Try.prog sid (fun f => fnIds.lookup f) (125, ir125) := .inl ⟨rfl, Try.f30, [], Try.func30, by kernel_rfl, by kernel_rfl⟩
theorem good_230 : Go.Vm.Good Try.prog sid (fun f => fnIds.lookup f) (230, ir230) := .inl ⟨rfl, Try.f70, [], Try.func70, by kernel_rfl, by kernel_rfl⟩
theorem good_257 : Go.Vm.Good Try.prog sid (fun f => fnIds.lookup f) (257, ir257) := .inl ⟨rfl, Try.f64, [], Try.func64, by kernel_rfl, by kernel_rfl⟩
theorem good_231 : Go.Vm.Good Try.prog sid (fun f => fnIds.lookup f) (231, ir231) := .inl ⟨rfl, Try.f100, [], Try.func100, by kernel_rfl, by kernel_rfl⟩
theorem good_286 : Go.Vm.Good Try.prog sid (fun f => fnIds.lookup f) (286, ir286) := .inl ⟨rfl, Try.f111, [], Try.func111, by kernel_rfl, by kernel_rfl⟩
theorem good_271 : Go.Vm.Good Try.prog sid (fun f => fnIds.lookup f) (271, ir271) := .inl ⟨rfl, Try.f82, [], Try.func82, by kernel_rfl, by kernel_rfl⟩
theorem good_142 : Go.Vm.Good Try.prog sid (fun f => fnIds.lookup f) (142, ir142) := .inl ⟨rfl, Try.f56, [], Try.func56, by kernel_rfl, by kernel_rfl⟩
theorem good_232 : Go.Vm.Good Try.prog sid (fun f => fnIds.lookup f) (232, ir232) := .inl ⟨rfl, Try.f99, [], Try.func99, by kernel_rfl, by kernel_rfl⟩
theorem good_255 : Go.Vm.Good Try.prog sid (fun f => fnIds.lookup f) (255, ir255) := .inl ⟨rfl, Try.f66, [], Try.func66, by kernel_rfl, by kernel_rfl⟩
theorem good_377 : Go.Vm.Good Try.prog sid (fun f => fnIds.lookup f) (377, ir377) := .inl ⟨rfl, Try.f122, [], Try.func122, by kernel_rfl, by kernel_rfl⟩
theorem good_336 : Go.Vm.Good Try.prog sid (fun f => fnIds.lookup f) (336, ir336) := .inl ⟨rfl, Try.f114, [], Try.func114, by kernel_rfl, by kernel_rfl⟩
theorem good_340 : Go.Vm.Good Try.prog sid (fun f => fnIds.lookup f) (340, ir340) := .inl ⟨rfl, Try.f115, [], Try.func115, by kernel_rfl, by kernel_rfl⟩
theorem good_233 : Go.Vm.Good Try.prog sid (fun f => fnIds.lookup f) (233, ir233) := .inl ⟨rfl, Try.f101, [], Try.func101, by kernel_rfl, by kernel_rfl⟩
theorem good_351 : Go.Vm.Good Try.prog sid (fun f => fnIds.lookup f) (351, ir351) := .inl ⟨rfl, Try.f116, [], Try.func116, by kernel_rfl, by kernel_rfl⟩
theorem good_352 : Go.Vm.Good Try.prog sid (fun f => fnIds.lookup f) (352, ir352) := .inl ⟨rfl, Try.f121, [], Try.func121, by kernel_rfl, by kernel_rfl⟩
theorem good_290 : Go.Vm.Good Try.prog sid (fun f => fnIds.lookup f) (290, ir290) := .inl ⟨rfl, Try.f112, [], Try.func112, by kernel_rfl, by kernel_rfl⟩
theorem good_258 : Go.Vm.Good Try.prog sid (fun f => fnIds.lookup f) (258, ir258) := .inl ⟨rfl, Try.f87, [], Try.func87, by kernel_rfl, by kernel_rfl⟩
theorem good_113 : Go.Vm.Good Try.prog sid (fun f => fnIds.lookup f) (113, ir113) := .inl ⟨rfl, Try.f60, [], Try.func60, by kernel_rfl, by kernel_rfl⟩
theorem good_264 : Go.Vm.Good Try.prog sid (fun f => fnIds.lookup f) (264, ir264) := .inl ⟨rfl, Try.f74, [], Try.func74, by kernel_rfl, by kernel_rfl⟩
theorem good_299 : Go.Vm.Good Try.prog sid (fun f => fnIds.lookup f) (299, ir299) := clone_seat sid_ok (by kernel_rfl) rfl Try.func73 (by kernel_rfl) (by kernel_rfl) (by kernel_rfl) (by kernel_rfl) (by kernel_rfl) (by kernel_rfl) (by kernel_rfl) (by kernel_rfl) (by kernel_rfl) (by kernel_rfl) (by kernel_rfl) (by kernel_rfl) (by kernel_rfl) (by kernel_rfl)
theorem good_288 : Go.Vm.Good Try.prog sid (fun f => fnIds.lookup f) (288, ir288) := .inl ⟨rfl, Try.f103, [], Try.func103, by kernel_rfl, by kernel_rfl⟩
theorem good_285 : Go.Vm.Good Try.prog sid (fun f => fnIds.lookup f) (285, ir285) := .inl ⟨rfl, Try.f69, [], Try.func69, by kernel_rfl, by kernel_rfl⟩
theorem good_68 : Go.Vm.Good Try.prog sid (fun f => fnIds.lookup f) (68, ir68) := .inl ⟨rfl, Try.f68, [], Try.func68, by kernel_rfl, by kernel_rfl⟩
theorem good_358 : Go.Vm.Good Try.prog sid (fun f => fnIds.lookup f) (358, ir358) := .inl ⟨rfl, Try.f102, [], Try.func102, by kernel_rfl, by kernel_rfl⟩
theorem good_354 : Go.Vm.Good Try.prog sid (fun f => fnIds.lookup f) (354, ir354) := .inl ⟨rfl, Try.f105, [], Try.func105, by kernel_rfl, by kernel_rfl⟩
theorem good_302 : Go.Vm.Good Try.prog sid (fun f => fnIds.lookup f) (302, ir302) := .inl ⟨rfl, Try.f76, [], Try.func76, by kernel_rfl, by kernel_rfl⟩
theorem good_359 : Go.Vm.Good Try.prog sid (fun f => fnIds.lookup f) (359, ir359) := .inl ⟨rfl, Try.f104, [], Try.func104, by kernel_rfl, by kernel_rfl⟩
theorem good_310 : Go.Vm.Good Try.prog sid (fun f => fnIds.lookup f) (310, ir310) := .inl ⟨rfl, Try.f72, [], Try.func72, by kernel_rfl, by kernel_rfl⟩
theorem good_311 : Go.Vm.Good Try.prog sid (fun f => fnIds.lookup f) (311, ir311) := .inl ⟨rfl, Try.f75, [], Try.func75, by kernel_rfl, by kernel_rfl⟩
theorem good_69 : Go.Vm.Good Try.prog sid (fun f => fnIds.lookup f) (69, ir69) := .inl ⟨rfl, Try.f71, [], Try.func71, by kernel_rfl, by kernel_rfl⟩
theorem good_174 : Go.Vm.Good Try.prog sid (fun f => fnIds.lookup f) (174, ir174) := .inl ⟨rfl, Try.f34, [], Try.func34, by kernel_rfl, by kernel_rfl⟩
theorem good_347 : Go.Vm.Good Try.prog sid (fun f => fnIds.lookup f) (347, ir347) := .inl ⟨rfl, Try.f120, [], Try.func120, by kernel_rfl, by kernel_rfl⟩
theorem good_266 : Go.Vm.Good Try.prog sid (fun f => fnIds.lookup f) (266, ir266) := .inl ⟨rfl, Try.f110, [], Try.func110, by kernel_rfl, by kernel_rfl⟩
theorem good_261 : Go.Vm.Good Try.prog sid (fun f => fnIds.lookup f) (261, ir261) := .inl ⟨rfl, Try.f80, [], Try.func80, by kernel_rfl, by kernel_rfl⟩
theorem good_182 : Go.Vm.Good Try.prog sid (fun f => fnIds.lookup f) (182, ir182) := .inl ⟨rfl, Try.f41, [], Try.func41, by kernel_rfl, by kernel_rfl⟩
theorem good_77 : Go.Vm.Good Try.prog sid (fun f => fnIds.lookup f) (77, ir77) := .inl ⟨rfl, Try.f67, [], Try.func67, by kernel_rfl, by kernel_rfl⟩
theorem good_167 : Go.Vm.Good Try.prog sid (fun f => fnIds.lookup f) (167, ir167) := .inl ⟨rfl, Try.f86, [], Try.func86, by kernel_rfl, by kernel_rfl⟩
theorem good_229 : Go.Vm.Good Try.prog sid (fun f => fnIds.lookup f) (229, ir229) := .inl ⟨rfl, Try.f107, [], Try.func107, by kernel_rfl, by kernel_rfl⟩
theorem good_228 : Go.Vm.Good Try.prog sid (fun f => fnIds.lookup f) (228, ir228) := .inl ⟨rfl, Try.f106, [], Try.func106, by kernel_rfl, by kernel_rfl⟩
theorem good_272 : Go.Vm.Good Try.prog sid (fun f => fnIds.lookup f) (272, ir272) := .inl ⟨rfl, Try.f84, [], Try.func84, by kernel_rfl, by kernel_rfl⟩
theorem good_291 : Go.Vm.Good Try.prog sid (fun f => fnIds.lookup f) (291, ir291) := .inl ⟨rfl, Try.f118, [], Try.func118, by kernel_rfl, by kernel_rfl⟩
theorem good_350 : Go.Vm.Good Try.prog sid (fun f => fnIds.lookup f) (350, ir350) := .inl ⟨rfl, Try.f117, [], Try.func117, by kernel_rfl, by kernel_rfl⟩
theorem good_273 : Go.Vm.Good Try.prog sid (fun f => fnIds.lookup f) (273, ir273) := .inl ⟨rfl, Try.f108, [], Try.func108, by kernel_rfl, by kernel_rfl⟩
theorem good_131 : Go.Vm.Good Try.prog sid (fun f => fnIds.lookup f) (131, ir131) := .inl ⟨rfl, Try.f78, [], Try.func78, by kernel_rfl, by kernel_rfl⟩
theorem good_185 : Go.Vm.Good Try.prog sid (fun f => fnIds.lookup f) (185, ir185) := .inl ⟨rfl, Try.f39, [], Try.func39, by kernel_rfl, by kernel_rfl⟩
theorem good_186 : Go.Vm.Good Try.prog sid (fun f => fnIds.lookup f) (186, ir186) := .inl ⟨rfl, Try.f45, [], Try.func45, by kernel_rfl, by kernel_rfl⟩
theorem good_319 : Go.Vm.Good Try.prog sid (fun f => fnIds.lookup f) (319, ir319) := .inl ⟨rfl, Try.f81, [], Try.func81, by kernel_rfl, by kernel_rfl⟩
theorem good_197 : Go.Vm.Good Try.prog sid (fun f => fnIds.lookup f) (197, ir197) := .inl ⟨rfl, Try.f42, [], Try.func42, by kernel_rfl, by kernel_rfl⟩
theorem good_173 : Go.Vm.Good Try.prog sid (fun f => fnIds.lookup f) (173, ir173) := .inl ⟨rfl, Try.f32, [], Try.func32, by kernel_rfl, by kernel_rfl⟩
theorem good_280 : Go.Vm.Good Try.prog sid (fun f => fnIds.lookup f) (280, ir280) := .inl ⟨rfl, Try.f119, [], Try.func119, by kernel_rfl, by kernel_rfl⟩
theorem good_307 : Go.Vm.Good Try.prog sid (fun f => fnIds.lookup f) (307, ir307) := .inl ⟨rfl, Try.f58, [], Try.func58, by kernel_rfl, by kernel_rfl⟩
theorem good_295 : Go.Vm.Good Try.prog sid (fun f => fnIds.lookup f) (295, ir295) := .inl ⟨rfl, Try.f109, [], Try.func109, by kernel_rfl, by kernel_rfl⟩
theorem good_279 : Go.Vm.Good Try.prog sid (fun f => fnIds.lookup f) (279, ir279) := .inl ⟨rfl, Try.f79, [], Try.func79, by kernel_rfl, by kernel_rfl⟩
theorem good_196 : Go.Vm.Good Try.prog sid (fun f => fnIds.lookup f) (196, ir196) := .inl ⟨rfl, Try.f40, [], Try.func40, by kernel_rfl, by kernel_rfl⟩
theorem good_75 : Go.Vm.Good Try.prog sid (fun f => fnIds.lookup f) (75, ir75) := .inl ⟨rfl, Try.f83, [], Try.func83, by kernel_rfl, by kernel_rfl⟩
theorem good_166 : Go.Vm.Good Try.prog sid (fun f => fnIds.lookup f) (166, ir166) := .inl ⟨rfl, Try.f65, [], Try.func65, by kernel_rfl, by kernel_rfl⟩
theorem good_198 : Go.Vm.Good Try.prog sid (fun f => fnIds.lookup f) (198, ir198) := .inl ⟨rfl, Try.f43, [], Try.func43, by kernel_rfl, by kernel_rfl⟩
theorem good_320 : Go.Vm.Good Try.prog sid (fun f => fnIds.lookup f) (320, ir320) := .inl ⟨rfl, Try.f85, [], Try.func85, by kernel_rfl, by kernel_rfl⟩
theorem good_199 : Go.Vm.Good Try.prog sid (fun f => fnIds.lookup f) (199, ir199) := .inl ⟨rfl, Try.f44, [], Try.func44, by kernel_rfl, by kernel_rfl⟩
theorem good_321 : Go.Vm.Good Try.prog sid (fun f => fnIds.lookup f) (321, ir321) := .inl ⟨rfl, Try.f88, [], Try.func88, by kernel_rfl, by kernel_rfl⟩
theorem good_200 : Go.Vm.Good Try.prog sid (fun f => fnIds.lookup f) (200, ir200) := .inl ⟨rfl, Try.f46, [], Try.func46, by kernel_rfl, by kernel_rfl⟩
theorem good_45 : Go.Vm.Good Try.prog sid (fun f => fnIds.lookup f) (45, ir45) := .inl ⟨rfl, Try.f8, [], Try.func8, by kernel_rfl, by kernel_rfl⟩
theorem good_1081 : Go.Vm.Good Try.prog sid (fun f => fnIds.lookup f) (1081, ir1081) := .inl ⟨rfl, Try.f21, [.mrow, .val], Try.func21, by kernel_rfl, by kernel_rfl⟩
theorem good_1153 : Go.Vm.Good Try.prog sid (fun f => fnIds.lookup f) (1153, ir1153) := .inl ⟨rfl, Try.f22, [.mrow, .val], Try.func22, by kernel_rfl, by kernel_rfl⟩
theorem good_129 : Go.Vm.Good Try.prog sid (fun f => fnIds.lookup f) (129, ir129) := .inl ⟨rfl, Try.f17, [], Try.func17, by kernel_rfl, by kernel_rfl⟩
theorem good_292 : Go.Vm.Good Try.prog sid (fun f => fnIds.lookup f) (292, ir292) := .inl ⟨rfl, Try.f90, [], Try.func90, by kernel_rfl, by kernel_rfl⟩
theorem good_287 : Go.Vm.Good Try.prog sid (fun f => fnIds.lookup f) (287, ir287) := .inl ⟨rfl, Try.f92, [], Try.func92, by kernel_rfl, by kernel_rfl⟩
theorem good_236 : Go.Vm.Good Try.prog sid (fun f => fnIds.lookup f) (236, ir236) := .inl ⟨rfl, Try.f63, [], Try.func63, by kernel_rfl, by kernel_rfl⟩
theorem good_156 : Go.Vm.Good Try.prog sid (fun f => fnIds.lookup f) (156, ir156) := .inl ⟨rfl, Try.f23, [], Try.func23, by kernel_rfl, by kernel_rfl⟩
theorem good_256 : Go.Vm.Good Try.prog sid (fun f => fnIds.lookup f) (256, ir256) := .inl ⟨rfl, Try.f93, [], Try.func93, by kernel_rfl, by kernel_rfl⟩
theorem good_112 : Go.Vm.Good Try.prog sid (fun f => fnIds.lookup f) (112, ir112) := .inl ⟨rfl, Try.f55, [], Try.func55, by kernel_rfl, by kernel_rfl⟩
theorem good_301 : Go.Vm.Good Try.prog sid (fun f => fnIds.lookup f) (301, ir301) := .inl ⟨rfl, Try.f94, [], Try.func94, by kernel_rfl, by kernel_rfl⟩
theorem good_306 : Go.Vm.Good Try.prog sid (fun f => fnIds.lookup f) (306, ir306) := .inl ⟨rfl, Try.f57, [], Try.func57, by kernel_rfl, by kernel_rfl⟩
theorem good_168 : Go.Vm.Good Try.prog sid (fun f => fnIds.lookup f) (168, ir168) := .inl ⟨rfl, Try.f13, [], Try.func13, by kernel_rfl, by kernel_rfl⟩
theorem good_180 : Go.Vm.Good Try.prog sid (fun f => fnIds.lookup f) (180, ir180) := .inl ⟨rfl, Try.f95, [], Try.func95, by kernel_rfl, by kernel_rfl⟩
theorem good_111 : Go.Vm.Good Try.prog sid (fun f => fnIds.lookup f) (111, ir111) := .inl ⟨rfl, Try.f59, [], Try.func59, by kernel_rfl, by kernel_rfl⟩
theorem good_337 : Go.Vm.Good Try.prog sid (fun f => fnIds.lookup f) (337, ir337) := .inl ⟨rfl, Try.f97, [], Try.func97, by kernel_rfl, by kernel_rfl⟩
theorem good_356 : Go.Vm.Good Try.prog sid (fun f => fnIds.lookup f) (356, ir356) := .inl ⟨rfl, Try.f96, [], Try.func96, by kernel_rfl, by kernel_rfl⟩
theorem good_308 : Go.Vm.Good Try.prog sid (fun f => fnIds.lookup f) (308, ir308) := .inl ⟨rfl, Try.f61, [], Try.func61, by kernel_rfl, by kernel_rfl⟩
theorem good_357 : Go.Vm.Good Try.prog sid (fun f => fnIds.lookup f) (357, ir357) := .inl ⟨rfl, Try.f98, [], Try.func98, by kernel_rfl, by kernel_rfl⟩
theorem good_309 : Go.Vm.Good Try.prog sid (fun f => fnIds.lookup f) (309, ir309) := .inl ⟨rfl, Try.f62, [], Try.func62, by kernel_rfl, by kernel_rfl⟩
theorem good_169 : Go.Vm.Good Try.prog sid (fun f => fnIds.lookup f) (169, ir169) := .inl ⟨rfl, Try.f16, [], Try.func16, by kernel_rfl, by kernel_rfl⟩
theorem good_78 : Go.Vm.Good Try.prog sid (fun f => fnIds.lookup f) (78, ir78) := .inl ⟨rfl, Try.f19, [], Try.func19, by kernel_rfl, by kernel_rfl⟩
theorem good_83 : Go.Vm.Good Try.prog sid (fun f => fnIds.lookup f) (83, ir83) := .inl ⟨rfl, Try.f12, [], Try.func12, by kernel_rfl, by kernel_rfl⟩
theorem good_85 : Go.Vm.Good Try.prog sid (fun f => fnIds.lookup f) (85, ir85) := .inl ⟨rfl, Try.f15, [], Try.func15, by kernel_rfl, by kernel_rfl⟩
theorem good_36 : Go.Vm.Good Try.prog sid (fun f => fnIds.lookup f) (36, ir36) := .inl ⟨rfl, Try.f3, [], Try.func3, by kernel_rfl, by kernel_rfl⟩
theorem good_130 : Go.Vm.Good Try.prog sid (fun f => fnIds.lookup f) (130, ir130) := .inl ⟨rfl, Try.f77, [], Try.func77, by kernel_rfl, by kernel_rfl⟩
theorem good_192 : Go.Vm.Good Try.prog sid (fun f => fnIds.lookup f) (192, ir192) := .inl ⟨rfl, Try.f38, [], Try.func38, by kernel_rfl, by kernel_rfl⟩
theorem good_164 : Go.Vm.Good Try.prog sid (fun f => fnIds.lookup f) (164, ir164) := .inl ⟨rfl, Try.f89, [], Try.func89, by kernel_rfl, by kernel_rfl⟩
theorem good_170 : Go.Vm.Good Try.prog sid (fun f => fnIds.lookup f) (170, ir170) := .inl ⟨rfl, Try.f25, [], Try.func25, by kernel_rfl, by kernel_rfl⟩
theorem good_205 : Go.Vm.Good Try.prog sid (fun f => fnIds.lookup f) (205, ir205) := .inl ⟨rfl, Try.f48, [], Try.func48, by kernel_rfl, by kernel_rfl⟩
theorem good_208 : Go.Vm.Good Try.prog sid (fun f => fnIds.lookup f) (208, ir208) := .inl ⟨rfl, Try.f52, [], Try.func52, by kernel_rfl, by kernel_rfl⟩
theorem good_206 : Go.Vm.Good Try.prog sid (fun f => fnIds.lookup f) (206, ir206) := .inl ⟨rfl, Try.f50, [], Try.func50, by kernel_rfl, by kernel_rfl⟩
theorem good_305 : Go.Vm.Good Try.prog sid (fun f => fnIds.lookup f) (305, ir305) := .inl ⟨rfl, Try.f113, [], Try.func113, by kernel_rfl, by kernel_rfl⟩
theorem good_165 : Go.Vm.Good Try.prog sid (fun f => fnIds.lookup f) (165, ir165) := .inl ⟨rfl, Try.f91, [], Try.func91, by kernel_rfl, by kernel_rfl⟩
theorem good_171 : Go.Vm.Good Try.prog sid (fun f => fnIds.lookup f) (171, ir171) := .inl ⟨rfl, Try.f27, [], Try.func27, by kernel_rfl, by kernel_rfl⟩
theorem good_189 : Go.Vm.Good Try.prog sid (fun f => fnIds.lookup f) (189, ir189) := .inl ⟨rfl, Try.f49, [], Try.func49, by kernel_rfl, by kernel_rfl⟩
theorem good_184 : Go.Vm.Good Try.prog sid (fun f => fnIds.lookup f) (184, ir184) := .inl ⟨rfl, Try.f53, [], Try.func53, by kernel_rfl, by kernel_rfl⟩
theorem good_207 : Go.Vm.Good Try.prog sid (fun f => fnIds.lookup f) (207, ir207) := .inl ⟨rfl, Try.f51, [], Try.func51, by kernel_rfl, by kernel_rfl⟩
theorem good_48 : Go.Vm.Good Try.prog sid (fun f => fnIds.lookup f) (48, ir48) := .inl ⟨rfl, Try.f10, [], Try.func10, by kernel_rfl, by kernel_rfl⟩
theorem good_82 : Go.Vm.Good Try.prog sid (fun f => fnIds.lookup f) (82, ir82) := .inl ⟨rfl, Try.f37, [], Try.func37, by kernel_rfl, by kernel_rfl⟩
theorem good_47 : Go.Vm.Good Try.prog sid (fun f => fnIds.lookup f) (47, ir47) := .inl ⟨rfl, Try.f9, [], Try.func9, by kernel_rfl, by kernel_rfl⟩
theorem good_49 : Go.Vm.Good Try.prog sid (fun f => fnIds.lookup f) (49, ir49) := .inl ⟨rfl, Try.f11, [], Try.func11, by kernel_rfl, by kernel_rfl⟩
theorem tab : FnTab Try.prog sid (fun f => fnIds.lookup f) Tb := fnTab_of fnIds sid_ok (by kernel_rfl) tbl (by
 unfold tbl
 intro p hp
 simp only [List.mem_cons, List.not_mem_nil, or_false] at hp
 rcases hp with rfl | rfl | rfl | rfl | rfl | rfl | rfl | rfl | rfl | rfl | rfl | rfl | rfl | rfl | rfl | rfl | rfl | rfl | rfl | rfl | rfl | rfl | rfl | rfl | rfl | rfl | rfl | rfl | rfl | rfl | rfl | rfl | rfl | rfl | rfl | rfl | rfl | rfl | rfl | rfl | rfl | rfl | rfl | rfl | rfl | rfl | rfl | rfl | rfl | rfl | rfl | rfl | rfl | rfl | rfl | rfl | rfl | rfl | rfl | rfl | rfl | rfl | rfl | rfl | rfl | rfl | rfl | rfl | rfl | rfl | rfl | rfl | rfl | rfl | rfl | rfl | rfl | rfl | rfl | rfl | rfl | rfl | rfl | rfl | rfl | rfl | rfl | rfl | rfl | rfl | rfl | rfl | rfl | rfl | rfl | rfl | rfl | rfl | rfl | rfl | rfl | rfl | rfl | rfl | rfl | rfl | rfl | rfl | rfl | rfl | rfl | rfl | rfl | rfl | rfl
 ·exact good_227
 ·exact good_56
 ·exact good_101
 ·exact good_76
 ·exact good_58
 ·exact good_103
 ·exact good_79
 ·exact good_60
 ·exact good_105
 ·exact good_1080
 ·exact good_1172
 ·exact good_1201
 ·exact good_125
 ·exact good_230
 ·exact good_257
 ·exact good_231
 ·exact good_286
 ·exact good_271
 ·exact good_142
 ·exact good_232
 ·exact good_255
 ·exact good_377
 ·exact good_336
 ·exact good_340
 ·exact good_233
 ·exact good_351
 ·exact good_352
 ·exact good_290
 ·exact good_258
 ·exact good_113
 ·exact good_264
 ·exact good_299
 ·exact good_288
 ·exact good_285
 ·exact good_68
 ·exact good_358
 ·exact good_354
 ·exact good_302
 ·exact good_359
 ·exact good_310
 ·exact good_311
 ·exact good_69
 ·exact good_174
 ·exact good_347
 ·exact good_266
 ·exact good_261
 ·exact good_182
 ·exact good_77
 ·exact good_167
 ·exact good_229
 ·exact good_228
 ·exact good_272
 ·exact good_291
 ·exact good_350
 ·exact good_273
 ·exact good_131
 ·exact good_185
 ·exact good_186
 ·exact good_319
 ·exact good_197
 ·exact good_173
 ·exact good_280
 ·exact good_307
 ·exact good_295
 ·exact good_279
 ·exact good_196
 ·exact good_75
 ·exact good_166
 ·exact good_198
 ·exact good_320
 ·exact good_199
 ·exact good_321
 ·exact good_200
 ·exact good_45
 ·exact good_1081
 ·exact good_1153
 ·exact good_129
 ·exact good_292
 ·exact good_287
 ·exact good_236
 ·exact good_156
 ·exact good_256
 ·exact good_112
 ·exact good_301
 ·exact good_306
 ·exact good_168
 ·exact good_180
 ·exact good_111
 ·exact good_337
 ·exact good_356
 ·exact good_308
 ·exact good_357
 ·exact good_309
 ·exact good_169
 ·exact good_78
 ·exact good_83
 ·exact good_85
 ·exact good_36
 ·exact good_130
 ·exact good_192
 ·exact good_164
 ·exact good_170
 ·exact good_205
 ·exact good_208
 ·exact good_206
 ·exact good_305
 ·exact good_165
 ·exact good_171
 ·exact good_189
 ·exact good_184
 ·exact good_207
 ·exact good_48
 ·exact good_82
 ·exact good_47
 ·exact good_49)
set_option maxRecDepth 100000 in
theorem lifted (os : Os) (started : os.Started) (H : Type) (enc : TypeId × Value → H) :
  ReturnsInHanded {} Try.checked os 11 .any (Rows.fnExactHelloForSpec.pre6 enc Try.prog Try.f11 Rows.fnExactHelloForRow.domain false) (Rows.fnExactHelloForSpec.post enc Try.prog Try.f11 false true false false) := by
 refine returnsInHanded_of_change (C := Try.checked) own started (by kernel_rfl) Try.func11
  (ChangeSpec.witness6 (enc := enc) (C := Try.checked) false ⟨#[], #[.agg #[.slice none 0 0, .slice none 0 0], .slice none 0 0], []⟩ 8 (by kernel_rfl) (by kernel_rfl) (by kernel_rfl) (by kernel_rfl)) ?_
 intro W base args ds gs before hval hW _ _
 exact law_contract (C := Try.checked) (modes := md) (m := 8) tab (g := 49) (fn := Try.f11) (ls := [(true, [.row [.int .i64], .row [.int .i64, .row [.int .i64]]]), (false, [.row [.int .i64, .row [.int .i64], .row [.int .i64], .bool]])]) (by kernel_rfl) ans49 (s := Rows.fnExactHelloForSpec) rfl (fun H ds h => by
   have h' : ds.length = 2 := h
   match ds, h' with
   | [_, _], _ => rfl) (tb := 4) (by kernel_rfl) (by kernel_rfl) laidOut (by
   intro t ht
   have key : ∀ t ∈ Try.f11.params.toList, Try.prog.readableRec t = true ∧ t < Try.prog.types.size := by
    rw [show Try.f11.params.toList = [25, 43] by kernel_rfl]
    intro t ht
    simp only [List.mem_cons, List.not_mem_nil, or_false] at ht
    rcases ht with rfl | rfl <;> exact ⟨by kernel_rfl, of_decide_eq_true (by kernel_rfl)⟩
   exact key t ht) W base args ds gs before hval hW
theorem holds : Rows.FnExactHelloForSaid :=
 OpenClaim.holds_of_wide 11 Try.f11 rfl rfl rfl rfl rfl rfl rfl ⟨rfl, rfl, rfl, rfl, rfl⟩ rfl rfl rfl rfl rfl (by kernel_rfl) Try.func11 (by kernel_rfl)
  (of_decide_eq_true (by kernel_rfl)) (by unfold Func.isWrapper; rw [if_neg (by decide +kernel)]; exact ⟨rfl, rfl⟩)
  (fun os started H enc _ => lifted os started H enc)
#print axioms holds
end Go.Proofs.Ytokkeikhghanpaa
