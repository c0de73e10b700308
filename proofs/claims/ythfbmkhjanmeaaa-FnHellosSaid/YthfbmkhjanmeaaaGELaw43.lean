/- FnHellos: whatever the input, the law returns true and each argument reads behind the call as it read before; no condition. -/
import Derived.Test.YthfbmkhjanmeaaaRows
import Derived.Test.YthfbmkhjanmeaaaGEN43
import Derived.Test.YthfbmkhjanmeaaaVmX
import Derived.ProofKit
set_option maxHeartbeats 4000000
set_option maxRecDepth 10000
set_option linter.unusedVariables false
set_option linter.unusedSimpArgs false
namespace Go.Proofs.Ythfbmkhjanmeaaa
open Go.ChangeShapes Go.WideShapes Go.ChangeAt Go.RowKit Go.Vm
def fnIds : List (Nat × Nat) := [(2, 2), (3, 39), (4, 40), (5, 41), (6, 43), (7, 108), (8, 176), (9, 174), (10, 59), (11, 113), (12, 131), (13, 177), (14, 178), (15, 179), (16, 180), (17, 181), (18, 182), (19, 104), (20, 102), (21, 183), (22, 184), (23, 142), (24, 171), (25, 148), (26, 185), (27, 150), (28, 186), (29, 187), (30, 188), (31, 189), (32, 190), (33, 167), (34, 191), (35, 165), (36, 164), (37, 77), (38, 193), (39, 163), (40, 158), (41, 194), (42, 195), (43, 169), (44, 161), (45, 111), (46, 152), (47, 246), (48, 3312), (49, 3251), (50, 69), (51, 310), (52, 299), (53, 264), (54, 311), (55, 302), (56, 255), (57, 258), (58, 229), (59, 273), (60, 3313), (61, 3250), (62, 261), (63, 243), (64, 244), (65, 57), (66, 314), (67, 257), (68, 271), (69, 287), (70, 288), (71, 289), (72, 290), (73, 291), (74, 232), (75, 3315), (76, 3316), (77, 3317), (78, 3249), (79, 305), (80, 285), (81, 318), (82, 294), (83, 304), (84, 298), (85, 162), (86, 3247), (87, 3252), (88, 308), (89, 309), (90, 118), (91, 303), (92, 3360), (93, 233), (94, 358), (95, 359), (96, 354), (97, 350), (98, 266), (99, 343), (100, 68), (101, 230), (102, 231), (103, 286), (104, 351), (105, 352), (106, 3248), (107, 3344), (108, 3361), (109, 345), (110, 355), (111, 293), (112, 356), (113, 337), (114, 357), (115, 223), (116, 336), (117, 340), (118, 347), (119, 377)]
def sid (g : Nat) : Nat := ((fnIds.find? fun p => p.2 == g).map (·.1)).getD 0
theorem sid_ok : ∀ p ∈ fnIds, sid p.2 = p.1 := by decide +kernel
theorem own : ownKnob Try.prog.godebug = none := by kernel_rfl
theorem laidOut : laidOutB Try.prog = true := by kernel_rfl
def laysGrow_ren : Go.Shelf.Ren := ⟨fun | 4 => 110 | n => n, fun | 22 => 24 | 25 => 3 | 3 => 3 | 4 => 4 | 9 => 9 | 20 => 20 | 0 => 0 | n => n, fun | n => n⟩
theorem laysGrow : Go.Proofs.Lays8.n4 Try.prog laysGrow_ren := {
 mixed := by kernel_rfl
 f4 := ⟨Try.f110.name, by decide, Try.func110.trans (congrArg some (by kernel_rfl))⟩
 t0 := Try.underlying0
 a0 := Try.isAgg0
 z0 := Try.sizeOf0
 v0 := Try.zeroValue0
 t3 := Try.underlying3
 a3 := Try.isAgg3
 z3 := Try.sizeOf3
 v3 := Try.zeroValue3
 t4 := Try.underlying4
 a4 := Try.isAgg4
 z4 := Try.sizeOf4
 v4 := Try.zeroValue4
 t9 := Try.underlying9
 a9 := Try.isAgg9
 z9 := Try.sizeOf9
 v9 := Try.zeroValue9
 t20 := Try.underlying20
 a20 := Try.isAgg20
 z20 := Try.sizeOf20
 v20 := Try.zeroValue20
 t22 := Try.underlying24
 a22 := Try.isAgg24
 z22 := Try.sizeOf24
 v22 := Try.zeroValue24 }
theorem good_108 : Go.Vm.Good Try.prog sid (fun f => fnIds.lookup f) (108, ir108) := .inl ⟨rfl, Try.f7, [], Try.func7, by kernel_rfl, by kernel_rfl⟩
theorem good_354 : Go.Vm.Good Try.prog sid (fun f => fnIds.lookup f) (354, ir354) := .inl ⟨rfl, Try.f96, [], Try.func96, by kernel_rfl, by kernel_rfl⟩
theorem good_302 : Go.Vm.Good Try.prog sid (fun f => fnIds.lookup f) (302, ir302) := .inl ⟨rfl, Try.f55, [], Try.func55, by kernel_rfl, by kernel_rfl⟩
theorem good_180 : Go.Vm.Good Try.prog sid (fun f => fnIds.lookup f) (180, ir180) := .inl ⟨rfl, Try.f16, [], Try.func16, by kernel_rfl, by kernel_rfl⟩
theorem good_232 : Go.Vm.Good Try.prog sid (fun f => fnIds.lookup f) (232, ir232) := .inl ⟨rfl, Try.f74, [], Try.func74, by kernel_rfl, by kernel_rfl⟩
theorem good_230 : Go.Vm.Good Try.prog sid (fun f => fnIds.lookup f) (230, ir230) := .inl ⟨rfl, Try.f101, [], Try.func101, by kernel_rfl, by kernel_rfl⟩
theorem good_257 : Go.Vm.Good Try.prog sid (fun f => fnIds.lookup f) (257, ir257) := .inl ⟨rfl, Try.f67, [], Try.func67, by kernel_rfl, by kernel_rfl⟩
theorem good_255 : Go.Vm.Good Try.prog sid (fun f => fnIds.lookup f) (255, ir255) := .inl ⟨rfl, Try.f56, [], Try.func56, by kernel_rfl, by kernel_rfl⟩
theorem good_111 : Go.Vm.Good Try.prog sid (fun f => fnIds.lookup f) (111, ir111) := .inl ⟨rfl, Try.f45, [], Try.func45, by kernel_rfl, by kernel_rfl⟩
theorem good_231 : Go.Vm.Good Try.prog sid (fun f => fnIds.lookup f) (231, ir231) := .inl ⟨rfl, Try.f102, [], Try.func102, by kernel_rfl, by kernel_rfl⟩
theorem good_286 : Go.Vm.Good Try.prog sid (fun f => fnIds.lookup f) (286, ir286) := .inl ⟨rfl, Try.f103, [], Try.func103, by kernel_rfl, by kernel_rfl⟩
theorem good_271 : Go.Vm.Good Try.prog sid (fun f => fnIds.lookup f) (271, ir271) := .inl ⟨rfl, Try.f68, [], Try.func68, by kernel_rfl, by kernel_rfl⟩
theorem good_142 : Go.Vm.Good Try.prog sid (fun f => fnIds.lookup f) (142, ir142) := .inl ⟨rfl, Try.f23, [], Try.func23, by kernel_rfl, by kernel_rfl⟩
theorem good_377 : Go.Vm.Good Try.prog sid (fun f => fnIds.lookup f) (377, ir377) := .inl ⟨rfl, Try.f119, [], Try.func119, by kernel_rfl, by kernel_rfl⟩
theorem good_336 : Go.Vm.Good Try.prog sid (fun f => fnIds.lookup f) (336, ir336) := .inl ⟨rfl, Try.f116, [], Try.func116, by kernel_rfl, by kernel_rfl⟩
theorem good_340 : Go.Vm.Good Try.prog sid (fun f => fnIds.lookup f) (340, ir340) := .inl ⟨rfl, Try.f117, [], Try.func117, by kernel_rfl, by kernel_rfl⟩
theorem good_233 : Go.Vm.Good Try.prog sid (fun f => fnIds.lookup f) (233, ir233) := .inl ⟨rfl, Try.f93, [], Try.func93, by kernel_rfl, by kernel_rfl⟩
theorem good_351 : Go.Vm.Good Try.prog sid (fun f => fnIds.lookup f) (351, ir351) := .inl ⟨rfl, Try.f104, [], Try.func104, by kernel_rfl, by kernel_rfl⟩
theorem good_352 : Go.Vm.Good Try.prog sid (fun f => fnIds.lookup f) (352, ir352) := .inl ⟨rfl, Try.f105, [], Try.func105, by kernel_rfl, by kernel_rfl⟩
theorem good_290 : Go.Vm.Good Try.prog sid (fun f => fnIds.lookup f) (290, ir290) := .inl ⟨rfl, Try.f72, [], Try.func72, by kernel_rfl, by kernel_rfl⟩
theorem good_258 : Go.Vm.Good Try.prog sid (fun f => fnIds.lookup f) (258, ir258) := .inl ⟨rfl, Try.f57, [], Try.func57, by kernel_rfl, by kernel_rfl⟩
theorem good_113 : Go.Vm.Good Try.prog sid (fun f => fnIds.lookup f) (113, ir113) := .inl ⟨rfl, Try.f11, [], Try.func11, by kernel_rfl, by kernel_rfl⟩
theorem good_229 : Go.Vm.Good Try.prog sid (fun f => fnIds.lookup f) (229, ir229) := .inl ⟨rfl, Try.f58, [], Try.func58, by kernel_rfl, by kernel_rfl⟩
theorem good_291 : Go.Vm.Good Try.prog sid (fun f => fnIds.lookup f) (291, ir291) := .inl ⟨rfl, Try.f73, [], Try.func73, by kernel_rfl, by kernel_rfl⟩
theorem good_350 : Go.Vm.Good Try.prog sid (fun f => fnIds.lookup f) (350, ir350) := .inl ⟨rfl, Try.f97, [], Try.func97, by kernel_rfl, by kernel_rfl⟩
theorem good_273 : Go.Vm.Good Try.prog sid (fun f => fnIds.lookup f) (273, ir273) := .inl ⟨rfl, Try.f59, [], Try.func59, by kernel_rfl, by kernel_rfl⟩
theorem good_131 : Go.Vm.Good Try.prog sid (fun f => fnIds.lookup f) (131, ir131) := .inl ⟨rfl, Try.f12, [], Try.func12, by kernel_rfl, by kernel_rfl⟩
theorem good_293 : Go.Vm.Good Try.prog sid (fun f => fnIds.lookup f) (293, ir293) := .inl ⟨rfl, Try.f111, [], Try.func111, by kernel_rfl, by kernel_rfl⟩
theorem good_118 : Go.Vm.Good Try.prog sid (fun f => fnIds.lookup f) (118, ir118) := .inl ⟨rfl, Try.f90, [], Try.func90, by kernel_rfl, by kernel_rfl⟩
theorem good_294 : Go.Vm.Good Try.prog sid (fun f => fnIds.lookup f) (294, ir294) := .inl ⟨rfl, Try.f82, [], Try.func82, by kernel_rfl, by kernel_rfl⟩
theorem good_152 : Go.Vm.Good Try.prog sid (fun f => fnIds.lookup f) (152, ir152) := .inl ⟨rfl, Try.f46, [], Try.func46, by kernel_rfl, by kernel_rfl⟩
theorem good_299 : Go.Vm.Good Try.prog sid (fun f => fnIds.lookup f) (299, ir299) := clone_seat sid_ok (by kernel_rfl) rfl Try.func52 (by kernel_rfl) (by kernel_rfl) (by kernel_rfl) (by kernel_rfl) (by kernel_rfl) (by kernel_rfl) (by kernel_rfl) (by kernel_rfl) (by kernel_rfl) (by kernel_rfl) (by kernel_rfl) (by kernel_rfl) (by kernel_rfl) (by kernel_rfl)
theorem good_298 : Go.Vm.Good Try.prog sid (fun f => fnIds.lookup f) (298, ir298) := .inl ⟨rfl, Try.f84, [], Try.func84, by kernel_rfl, by kernel_rfl⟩
theorem good_158 : Go.Vm.Good Try.prog sid (fun f => fnIds.lookup f) (158, ir158) := .inl ⟨rfl, Try.f40, [], Try.func40, by kernel_rfl, by kernel_rfl⟩
theorem good_285 : Go.Vm.Good Try.prog sid (fun f => fnIds.lookup f) (285, ir285) := .inl ⟨rfl, Try.f80, [], Try.func80, by kernel_rfl, by kernel_rfl⟩
theorem good_287 : Go.Vm.Good Try.prog sid (fun f => fnIds.lookup f) (287, ir287) := .inl ⟨rfl, Try.f69, [], Try.func69, by kernel_rfl, by kernel_rfl⟩
theorem good_288 : Go.Vm.Good Try.prog sid (fun f => fnIds.lookup f) (288, ir288) := .inl ⟨rfl, Try.f70, [], Try.func70, by kernel_rfl, by kernel_rfl⟩
theorem good_289 : Go.Vm.Good Try.prog sid (fun f => fnIds.lookup f) (289, ir289) := .inl ⟨rfl, Try.f71, [], Try.func71, by kernel_rfl, by kernel_rfl⟩
theorem good_148 : Go.Vm.Good Try.prog sid (fun f => fnIds.lookup f) (148, ir148) := .inl ⟨rfl, Try.f25, [], Try.func25, by kernel_rfl, by kernel_rfl⟩
theorem good_179 : Go.Vm.Good Try.prog sid (fun f => fnIds.lookup f) (179, ir179) := .inl ⟨rfl, Try.f15, [], Try.func15, by kernel_rfl, by kernel_rfl⟩
theorem good_150 : Go.Vm.Good Try.prog sid (fun f => fnIds.lookup f) (150, ir150) := .inl ⟨rfl, Try.f27, [], Try.func27, by kernel_rfl, by kernel_rfl⟩
theorem good_337 : Go.Vm.Good Try.prog sid (fun f => fnIds.lookup f) (337, ir337) := .inl ⟨rfl, Try.f113, [], Try.func113, by kernel_rfl, by kernel_rfl⟩
theorem good_223 : Go.Vm.Good Try.prog sid (fun f => fnIds.lookup f) (223, ir223) := .inl ⟨rfl, Try.f115, [], Try.func115, by kernel_rfl, by kernel_rfl⟩
theorem good_303 : Go.Vm.Good Try.prog sid (fun f => fnIds.lookup f) (303, ir303) := .inl ⟨rfl, Try.f91, [], Try.func91, by kernel_rfl, by kernel_rfl⟩
theorem good_161 : Go.Vm.Good Try.prog sid (fun f => fnIds.lookup f) (161, ir161) := .inl ⟨rfl, Try.f44, [], Try.func44, by kernel_rfl, by kernel_rfl⟩
theorem good_355 : Go.Vm.Good Try.prog sid (fun f => fnIds.lookup f) (355, ir355) := grow_seat (i0 := Try.t3) (z := .int .i64 0) laysGrow rfl (by kernel_rfl) (by kernel_rfl) (by kernel_rfl) (by kernel_rfl) (by decide) (by kernel_rfl)
theorem good_304 : Go.Vm.Good Try.prog sid (fun f => fnIds.lookup f) (304, ir304) := .inl ⟨rfl, Try.f83, [], Try.func83, by kernel_rfl, by kernel_rfl⟩
theorem good_163 : Go.Vm.Good Try.prog sid (fun f => fnIds.lookup f) (163, ir163) := .inl ⟨rfl, Try.f39, [], Try.func39, by kernel_rfl, by kernel_rfl⟩
theorem good_264 : Go.Vm.Good Try.prog sid (fun f => fnIds.lookup f) (264, ir264) := .inl ⟨rfl, Try.f53, [], Try.func53, by kernel_rfl, by kernel_rfl⟩
theorem good_356 : Go.Vm.Good Try.prog sid (fun f => fnIds.lookup f) (356, ir356) := .inl ⟨rfl, Try.f112, [], Try.func112, by kernel_rfl, by kernel_rfl⟩
theorem good_308 : Go.Vm.Good Try.prog sid (fun f => fnIds.lookup f) (308, ir308) := .inl ⟨rfl, Try.f88, [], Try.func88, by kernel_rfl, by kernel_rfl⟩
theorem good_357 : Go.Vm.Good Try.prog sid (fun f => fnIds.lookup f) (357, ir357) := .inl ⟨rfl, Try.f114, [], Try.func114, by kernel_rfl, by kernel_rfl⟩
theorem good_309 : Go.Vm.Good Try.prog sid (fun f => fnIds.lookup f) (309, ir309) := .inl ⟨rfl, Try.f89, [], Try.func89, by kernel_rfl, by kernel_rfl⟩
theorem good_169 : Go.Vm.Good Try.prog sid (fun f => fnIds.lookup f) (169, ir169) := .inl ⟨rfl, Try.f43, [], Try.func43, by kernel_rfl, by kernel_rfl⟩
theorem good_177 : Go.Vm.Good Try.prog sid (fun f => fnIds.lookup f) (177, ir177) := .inl ⟨rfl, Try.f13, [], Try.func13, by kernel_rfl, by kernel_rfl⟩
theorem good_188 : Go.Vm.Good Try.prog sid (fun f => fnIds.lookup f) (188, ir188) := .inl ⟨rfl, Try.f30, [], Try.func30, by kernel_rfl, by kernel_rfl⟩
theorem good_178 : Go.Vm.Good Try.prog sid (fun f => fnIds.lookup f) (178, ir178) := .inl ⟨rfl, Try.f14, [], Try.func14, by kernel_rfl, by kernel_rfl⟩
theorem good_246 : Go.Vm.Good Try.prog sid (fun f => fnIds.lookup f) (246, ir246) := .inl ⟨rfl, Try.f47, [], Try.func47, by kernel_rfl, by kernel_rfl⟩
theorem good_345 : Go.Vm.Good Try.prog sid (fun f => fnIds.lookup f) (345, ir345) := .inl ⟨rfl, Try.f109, [], Try.func109, by kernel_rfl, by kernel_rfl⟩
theorem good_3361 : Go.Vm.Good Try.prog sid (fun f => fnIds.lookup f) (3361, ir3361) := .inl ⟨rfl, Try.f108, [.mbox], Try.func108, by kernel_rfl, by kernel_rfl⟩
theorem good_3317 : Go.Vm.Good Try.prog sid (fun f => fnIds.lookup f) (3317, ir3317) := .inl ⟨rfl, Try.f77, [.mbox], Try.func77, by kernel_rfl, by kernel_rfl⟩
theorem good_3252 : Go.Vm.Good Try.prog sid (fun f => fnIds.lookup f) (3252, ir3252) := .inl ⟨rfl, Try.f87, [.mbox], Try.func87, by kernel_rfl, by kernel_rfl⟩
theorem good_3248 : Go.Vm.Good Try.prog sid (fun f => fnIds.lookup f) (3248, ir3248) := .inl ⟨rfl, Try.f106, [.mbox], Try.func106, by kernel_rfl, by kernel_rfl⟩
theorem good_3344 : Go.Vm.Good Try.prog sid (fun f => fnIds.lookup f) (3344, ir3344) := .inl ⟨rfl, Try.f107, [.mbox], Try.func107, by kernel_rfl, by kernel_rfl⟩
theorem good_3247 : Go.Vm.Good Try.prog sid (fun f => fnIds.lookup f) (3247, ir3247) := .inl ⟨rfl, Try.f86, [.mbox], Try.func86, by kernel_rfl, by kernel_rfl⟩
theorem good_3315 : Go.Vm.Good Try.prog sid (fun f => fnIds.lookup f) (3315, ir3315) := .inl ⟨rfl, Try.f75, [.mbox], Try.func75, by kernel_rfl, by kernel_rfl⟩
theorem good_3316 : Go.Vm.Good Try.prog sid (fun f => fnIds.lookup f) (3316, ir3316) := .inl ⟨rfl, Try.f76, [.mbox], Try.func76, by kernel_rfl, by kernel_rfl⟩
theorem good_3251 : Go.Vm.Good Try.prog sid (fun f => fnIds.lookup f) (3251, ir3251) := .inl ⟨rfl, Try.f49, [.mbox], Try.func49, by kernel_rfl, by kernel_rfl⟩
theorem good_3250 : Go.Vm.Good Try.prog sid (fun f => fnIds.lookup f) (3250, ir3250) := .inl ⟨rfl, Try.f61, [.mbox], Try.func61, by kernel_rfl, by kernel_rfl⟩
theorem good_318 : Go.Vm.Good Try.prog sid (fun f => fnIds.lookup f) (318, ir318) := .inl ⟨rfl, Try.f81, [], Try.func81, by kernel_rfl, by kernel_rfl⟩
theorem good_193 : Go.Vm.Good Try.prog sid (fun f => fnIds.lookup f) (193, ir193) := .inl ⟨rfl, Try.f38, [], Try.func38, by kernel_rfl, by kernel_rfl⟩
theorem good_162 : Go.Vm.Good Try.prog sid (fun f => fnIds.lookup f) (162, ir162) := .inl ⟨rfl, Try.f85, [], Try.func85, by kernel_rfl, by kernel_rfl⟩
theorem good_68 : Go.Vm.Good Try.prog sid (fun f => fnIds.lookup f) (68, ir68) := .inl ⟨rfl, Try.f100, [], Try.func100, by kernel_rfl, by kernel_rfl⟩
theorem good_57 : Go.Vm.Good Try.prog sid (fun f => fnIds.lookup f) (57, ir57) := .inl ⟨rfl, Try.f65, [], Try.func65, by kernel_rfl, by kernel_rfl⟩
theorem good_102 : Go.Vm.Good Try.prog sid (fun f => fnIds.lookup f) (102, ir102) := .inl ⟨rfl, Try.f20, [], Try.func20, by kernel_rfl, by kernel_rfl⟩
theorem good_164 : Go.Vm.Good Try.prog sid (fun f => fnIds.lookup f) (164, ir164) := .inl ⟨rfl, Try.f36, [], Try.func36, by kernel_rfl, by kernel_rfl⟩
theorem good_194 : Go.Vm.Good Try.prog sid (fun f => fnIds.lookup f) (194, ir194) := .inl ⟨rfl, Try.f41, [], Try.func41, by kernel_rfl, by kernel_rfl⟩
theorem good_3249 : Go.Vm.Good Try.prog sid (fun f => fnIds.lookup f) (3249, ir3249) := .inl ⟨rfl, Try.f78, [.mbox], Try.func78, by kernel_rfl, by kernel_rfl⟩
theorem good_195 : Go.Vm.Good Try.prog sid (fun f => fnIds.lookup f) (195, ir195) := .inl ⟨rfl, Try.f42, [], Try.func42, by kernel_rfl, by kernel_rfl⟩
theorem good_43 : Go.Vm.Good Try.prog sid (fun f => fnIds.lookup f) (43, ir43) := .inl ⟨rfl, Try.f6, [], Try.func6, by kernel_rfl, by kernel_rfl⟩
theorem tab : FnTab Try.prog sid (fun f => fnIds.lookup f) Tb := fnTab_of fnIds sid_ok (by kernel_rfl) tbl (by
 unfold tbl
 intro p hp
 simp only [List.mem_cons, List.not_mem_nil, or_false] at hp
 rcases hp with rfl | rfl | rfl | rfl | rfl | rfl | rfl | rfl | rfl | rfl | rfl | rfl | rfl | rfl | rfl | rfl | rfl | rfl | rfl | rfl | rfl | rfl | rfl | rfl | rfl | rfl | rfl | rfl | rfl | rfl | rfl | rfl | rfl | rfl | rfl | rfl | rfl | rfl | rfl | rfl | rfl | rfl | rfl | rfl | rfl | rfl | rfl | rfl | rfl | rfl | rfl | rfl | rfl | rfl | rfl | rfl | rfl | rfl | rfl | rfl | rfl | rfl | rfl | rfl | rfl | rfl | rfl | rfl | rfl | rfl | rfl | rfl | rfl | rfl | rfl | rfl | rfl | rfl | rfl | rfl
 ·exact good_108
 ·exact good_354
 ·exact good_302
 ·exact good_180
 ·exact good_232
 ·exact good_230
 ·exact good_257
 ·exact good_255
 ·exact good_111
 ·exact good_231
 ·exact good_286
 ·exact good_271
 ·exact good_142
 ·exact good_377
 ·exact good_336
 ·exact good_340
 ·exact good_233
 ·exact good_351
 ·exact good_352
 ·exact good_290
 ·exact good_258
 ·exact good_113
 ·exact good_229
 ·exact good_291
 ·exact good_350
 ·exact good_273
 ·exact good_131
 ·exact good_293
 ·exact good_118
 ·exact good_294
 ·exact good_152
 ·exact good_299
 ·exact good_298
 ·exact good_158
 ·exact good_285
 ·exact good_287
 ·exact good_288
 ·exact good_289
 ·exact good_148
 ·exact good_179
 ·exact good_150
 ·exact good_337
 ·exact good_223
 ·exact good_303
 ·exact good_161
 ·exact good_355
 ·exact good_304
 ·exact good_163
 ·exact good_264
 ·exact good_356
 ·exact good_308
 ·exact good_357
 ·exact good_309
 ·exact good_169
 ·exact good_177
 ·exact good_188
 ·exact good_178
 ·exact good_246
 ·exact good_345
 ·exact good_3361
 ·exact good_3317
 ·exact good_3252
 ·exact good_3248
 ·exact good_3344
 ·exact good_3247
 ·exact good_3315
 ·exact good_3316
 ·exact good_3251
 ·exact good_3250
 ·exact good_318
 ·exact good_193
 ·exact good_162
 ·exact good_68
 ·exact good_57
 ·exact good_102
 ·exact good_164
 ·exact good_194
 ·exact good_3249
 ·exact good_195
 ·exact good_43)
set_option maxRecDepth 100000 in
theorem lifted (os : Os) (started : os.Started) (H : Type) (enc : TypeId × Value → H) :
  ReturnsInHanded {} Try.checked os 6 .any (Rows.fnHellosSpec.pre6 enc Try.prog Try.f6 Rows.fnHellosRow.domain false) (Rows.fnHellosSpec.post enc Try.prog Try.f6 false true false false) := by
 refine returnsInHanded_of_change (C := Try.checked) own started (by kernel_rfl) Try.func6
  (ChangeSpec.witness6 (enc := enc) (C := Try.checked) false ⟨#[], #[.slice none 0 0], []⟩ 8 (by kernel_rfl) (by kernel_rfl) (by kernel_rfl) (by kernel_rfl)) ?_
 intro W base args ds gs before hval hW _ _
 exact law_contract (C := Try.checked) (modes := md) (m := 8) tab (g := 43) (fn := Try.f6) (ls := [(false, [.row [.int .u8]])]) (by kernel_rfl) ans43 (s := Rows.fnHellosSpec) rfl (fun H ds h => by
   have h' : ds.length = 1 := h
   match ds, h' with
   | [_], _ => rfl) (tb := 4) (by kernel_rfl) (by kernel_rfl) laidOut (by
   intro t ht
   have key : ∀ t ∈ Try.f6.params.toList, Try.prog.readableRec t = true ∧ t < Try.prog.types.size := by
    rw [show Try.f6.params.toList = [22] by kernel_rfl]
    intro t ht
    simp only [List.mem_cons, List.not_mem_nil, or_false] at ht
    rcases ht with rfl <;> exact ⟨by kernel_rfl, of_decide_eq_true (by kernel_rfl)⟩
   exact key t ht) W base args ds gs before hval hW
theorem holds : Rows.FnHellosSaid :=
 OpenClaim.holds_of_wide 6 Try.f6 rfl rfl rfl rfl rfl rfl rfl ⟨rfl, rfl, rfl, rfl, rfl⟩ rfl rfl rfl rfl rfl (by kernel_rfl) Try.func6 (by kernel_rfl)
  (of_decide_eq_true (by kernel_rfl)) (by unfold Func.isWrapper; rw [if_neg (by decide +kernel)]; exact ⟨rfl, rfl⟩)
  (fun os started H enc _ => lifted os started H enc)
#print axioms holds
end Go.Proofs.Ythfbmkhjanmeaaa
