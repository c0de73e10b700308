/- FnFollows: whatever the input, the law returns true and each argument reads behind the call as it read before; no condition. -/
import Derived.Test.YtmojgceacpclpaaRows
import Derived.Test.YtmojgceacpclpaaGLN52
import Derived.Test.YtmojgceacpclpaaVmX
import Derived.ProofKit
set_option maxHeartbeats 4000000
set_option maxRecDepth 10000
set_option linter.unusedVariables false
set_option linter.unusedSimpArgs false
namespace Go.Proofs.Ytmojgceacpclpaa
open Go.ChangeShapes Go.WideShapes Go.ChangeAt Go.RowKit Go.Vm
def fnIds : List (Nat × Nat) := [(2, 2), (3, 52), (4, 108), (5, 212), (6, 213), (7, 214), (8, 215), (9, 216), (10, 217), (11, 218), (12, 219), (13, 220), (14, 325), (15, 232), (16, 326), (17, 327), (18, 328), (19, 329), (20, 246), (21, 3330), (22, 331), (23, 332), (24, 333), (25, 334), (26, 287), (27, 335), (28, 3363), (29, 3364), (30, 3317), (31, 3365), (32, 230), (33, 366), (34, 367), (35, 368), (36, 369), (37, 370), (38, 371), (39, 372), (40, 3373), (41, 234), (42, 374), (43, 229), (44, 375), (45, 2346), (46, 376), (47, 302), (48, 3250), (49, 380), (50, 3361), (51, 3252), (52, 345), (53, 228), (54, 285), (55, 381), (56, 382), (57, 341), (58, 383), (59, 384), (60, 2378), (61, 379), (62, 354), (63, 2385), (64, 386), (65, 387), (66, 388), (67, 389), (68, 390), (69, 391), (70, 392), (71, 393), (72, 394), (73, 395), (74, 396), (75, 397), (76, 398), (77, 399), (78, 400), (79, 401), (80, 402)]
def sid (g : Nat) : Nat := ((fnIds.find? fun p => p.2 == g).map (·.1)).getD 0
theorem sid_ok : ∀ p ∈ fnIds, sid p.2 = p.1 := by decide +kernel
theorem own : ownKnob Try.prog.godebug = none := by kernel_rfl
theorem laidOut : laidOutB Try.prog = true := by kernel_rfl
def laysSort_ren : Go.Shelf.Ren := ⟨fun | 189 => 45 | 125 => 61 | 257 => 60 | 128 => 72 | 129 => 73 | 294 => 63 | 295 => 64 | 296 => 65 | 297 => 66 | 298 => 67 | 299 => 68 | 216 => 69 | 300 => 70 | 301 => 71 | 328 => 74 | 329 => 75 | 330 => 76 | 331 => 77 | 332 => 78 | 215 => 79 | 343 => 80 | n => n, fun | 28 => 36 | 3 => 3 | 46 => 73 | 0 => 0 | 51 => 85 | 53 => 87 | 4 => 4 | 183 => 77 | 182 => 76 | 131 => 82 | 5 => 5 | 9 => 9 | 218 => 88 | 222 => 92 | 228 => 95 | 229 => 96 | n => n, fun | n => n⟩
theorem laysSort : Go.Proofs.Lays.n189 Try.prog laysSort_ren := {
 mixed := by kernel_rfl
 f125 := Try.func61.trans (congrArg some (by kernel_rfl))
 f128 := Try.func72.trans (congrArg some (by kernel_rfl))
 f129 := Try.func73.trans (congrArg some (by kernel_rfl))
 f189 := Try.func45.trans (congrArg some (by kernel_rfl))
 f215 := Try.func79.trans (congrArg some (by kernel_rfl))
 f216 := Try.func69.trans (congrArg some (by kernel_rfl))
 f257 := Try.func60.trans (congrArg some (by kernel_rfl))
 f294 := Try.func63.trans (congrArg some (by kernel_rfl))
 f295 := Try.func64.trans (congrArg some (by kernel_rfl))
 f296 := Try.func65.trans (congrArg some (by kernel_rfl))
 f297 := Try.func66.trans (congrArg some (by kernel_rfl))
 f298 := Try.func67.trans (congrArg some (by kernel_rfl))
 f299 := Try.func68.trans (congrArg some (by kernel_rfl))
 f300 := Try.func70.trans (congrArg some (by kernel_rfl))
 f301 := Try.func71.trans (congrArg some (by kernel_rfl))
 f328 := Try.func74.trans (congrArg some (by kernel_rfl))
 f329 := Try.func75.trans (congrArg some (by kernel_rfl))
 f330 := Try.func76.trans (congrArg some (by kernel_rfl))
 f331 := Try.func77.trans (congrArg some (by kernel_rfl))
 f332 := Try.func78.trans (congrArg some (by kernel_rfl))
 f343 := Try.func80.trans (congrArg some (by kernel_rfl))
 t0 := Try.underlying0
 a0 := Try.isAgg0
 z0 := Try.sizeOf0
 v0 := Try.zeroValue0
 t3 := Try.underlying3
 a3 := Try.isAgg3
 z3 := Try.sizeOf3
 v3 := Try.zeroValue3
 t4 := Try.underlying4
 a4 := Try.isAgg4
 z4 := Try.sizeOf4
 v4 := Try.zeroValue4
 t5 := Try.underlying5
 a5 := Try.isAgg5
 z5 := Try.sizeOf5
 v5 := Try.zeroValue5
 t9 := Try.underlying9
 a9 := Try.isAgg9
 z9 := Try.sizeOf9
 v9 := Try.zeroValue9
 t28 := Try.underlying36
 a28 := Try.isAgg36
 z28 := Try.sizeOf36
 v28 := Try.zeroValue36
 t46 := Try.underlying73
 a46 := Try.isAgg73
 z46 := Try.sizeOf73
 v46 := Try.zeroValue73
 t51 := Try.underlying85
 a51 := Try.isAgg85
 z51 := Try.sizeOf85
 v51 := Try.zeroValue85
 t53 := Try.underlying87
 a53 := Try.isAgg87
 z53 := Try.sizeOf87
 v53 := Try.zeroValue87
 t131 := Try.underlying82
 a131 := Try.isAgg82
 z131 := Try.sizeOf82
 v131 := Try.zeroValue82
 t182 := Try.underlying76
 a182 := Try.isAgg76
 z182 := Try.sizeOf76
 v182 := Try.zeroValue76
 t183 := Try.underlying77
 a183 := Try.isAgg77
 z183 := Try.sizeOf77
 v183 := Try.zeroValue77
 t218 := Try.underlying88
 a218 := Try.isAgg88
 z218 := Try.sizeOf88
 v218 := Try.zeroValue88
 t222 := Try.underlying92
 a222 := Try.isAgg92
 z222 := Try.sizeOf92
 v222 := Try.zeroValue92
 t228 := Try.underlying95
 a228 := Try.isAgg95
 z228 := Try.sizeOf95
 v228 := Try.zeroValue95
 t229 := Try.underlying96
 a229 := Try.isAgg96
 z229 := Try.sizeOf96
 v229 := Try.zeroValue96 }
theorem good_108 : Go.Vm.Good Try.prog sid (fun f => fnIds.lookup f) (108, ir108) := .inl ⟨rfl, Try.f4, [], Try.func4, by kernel_rfl, by kernel_rfl⟩
theorem good_246 : Go.Vm.Good Try.prog sid (fun f => fnIds.lookup f) (246, ir246) := .inl ⟨rfl, Try.f20, [], Try.func20, by kernel_rfl, by kernel_rfl⟩
theorem good_341 : Go.Vm.Good Try.prog sid (fun f => fnIds.lookup f) (341, ir341) := .inl ⟨rfl, Try.f57, [], Try.func57, by kernel_rfl, by kernel_rfl⟩
theorem good_234 : Go.Vm.Good Try.prog sid (fun f => fnIds.lookup f) (234, ir234) := .inl ⟨rfl, Try.f41, [], Try.func41, by kernel_rfl, by kernel_rfl⟩
theorem good_229 : Go.Vm.Good Try.prog sid (fun f => fnIds.lookup f) (229, ir229) := .inl ⟨rfl, Try.f43, [], Try.func43, by kernel_rfl, by kernel_rfl⟩
theorem good_374 : Go.Vm.Good Try.prog sid (fun f => fnIds.lookup f) (374, ir374) := .inl ⟨rfl, Try.f42, [], Try.func42, by kernel_rfl, by kernel_rfl⟩
theorem good_230 : Go.Vm.Good Try.prog sid (fun f => fnIds.lookup f) (230, ir230) := .inl ⟨rfl, Try.f32, [], Try.func32, by kernel_rfl, by kernel_rfl⟩
theorem good_285 : Go.Vm.Good Try.prog sid (fun f => fnIds.lookup f) (285, ir285) := .inl ⟨rfl, Try.f54, [], Try.func54, by kernel_rfl, by kernel_rfl⟩
theorem good_331 : Go.Vm.Good Try.prog sid (fun f => fnIds.lookup f) (331, ir331) := .inl ⟨rfl, Try.f22, [], Try.func22, by kernel_rfl, by kernel_rfl⟩
theorem good_366 : Go.Vm.Good Try.prog sid (fun f => fnIds.lookup f) (366, ir366) := .inl ⟨rfl, Try.f33, [], Try.func33, by kernel_rfl, by kernel_rfl⟩
theorem good_3361 : Go.Vm.Good Try.prog sid (fun f => fnIds.lookup f) (3361, ir3361) := .inl ⟨rfl, Try.f50, [.mbox], Try.func50, by kernel_rfl, by kernel_rfl⟩
theorem good_3317 : Go.Vm.Good Try.prog sid (fun f => fnIds.lookup f) (3317, ir3317) := .inl ⟨rfl, Try.f30, [.mbox], Try.func30, by kernel_rfl, by kernel_rfl⟩
theorem good_3252 : Go.Vm.Good Try.prog sid (fun f => fnIds.lookup f) (3252, ir3252) := .inl ⟨rfl, Try.f51, [.mbox], Try.func51, by kernel_rfl, by kernel_rfl⟩
theorem good_345 : Go.Vm.Good Try.prog sid (fun f => fnIds.lookup f) (345, ir345) := .inl ⟨rfl, Try.f52, [], Try.func52, by kernel_rfl, by kernel_rfl⟩
theorem good_3250 : Go.Vm.Good Try.prog sid (fun f => fnIds.lookup f) (3250, ir3250) := .inl ⟨rfl, Try.f48, [.mbox], Try.func48, by kernel_rfl, by kernel_rfl⟩
theorem good_3363 : Go.Vm.Good Try.prog sid (fun f => fnIds.lookup f) (3363, ir3363) := .inl ⟨rfl, Try.f28, [.mbox], Try.func28, by kernel_rfl, by kernel_rfl⟩
theorem good_217 : Go.Vm.Good Try.prog sid (fun f => fnIds.lookup f) (217, ir217) := .inl ⟨rfl, Try.f10, [], Try.func10, by kernel_rfl, by kernel_rfl⟩
theorem good_2346 : Go.Vm.Good Try.prog sid (fun f => fnIds.lookup f) (2346, ir2346) := sort_seat laysSort rfl (by kernel_rfl)
theorem good_376 : Go.Vm.Good Try.prog sid (fun f => fnIds.lookup f) (376, ir376) := .inl ⟨rfl, Try.f46, [], Try.func46, by kernel_rfl, by kernel_rfl⟩
theorem good_334 : Go.Vm.Good Try.prog sid (fun f => fnIds.lookup f) (334, ir334) := .inl ⟨rfl, Try.f25, [], Try.func25, by kernel_rfl, by kernel_rfl⟩
theorem good_232 : Go.Vm.Good Try.prog sid (fun f => fnIds.lookup f) (232, ir232) := .inl ⟨rfl, Try.f15, [], Try.func15, by kernel_rfl, by kernel_rfl⟩
theorem good_214 : Go.Vm.Good Try.prog sid (fun f => fnIds.lookup f) (214, ir214) := .inl ⟨rfl, Try.f7, [], Try.func7, by kernel_rfl, by kernel_rfl⟩
theorem good_335 : Go.Vm.Good Try.prog sid (fun f => fnIds.lookup f) (335, ir335) := .inl ⟨rfl, Try.f27, [], Try.func27, by kernel_rfl, by kernel_rfl⟩
theorem good_367 : Go.Vm.Good Try.prog sid (fun f => fnIds.lookup f) (367, ir367) := .inl ⟨rfl, Try.f34, [], Try.func34, by kernel_rfl, by kernel_rfl⟩
theorem good_380 : Go.Vm.Good Try.prog sid (fun f => fnIds.lookup f) (380, ir380) := .inl ⟨rfl, Try.f49, [], Try.func49, by kernel_rfl, by kernel_rfl⟩
theorem good_3364 : Go.Vm.Good Try.prog sid (fun f => fnIds.lookup f) (3364, ir3364) := .inl ⟨rfl, Try.f29, [.mbox], Try.func29, by kernel_rfl, by kernel_rfl⟩
theorem good_3365 : Go.Vm.Good Try.prog sid (fun f => fnIds.lookup f) (3365, ir3365) := .inl ⟨rfl, Try.f31, [.mbox], Try.func31, by kernel_rfl, by kernel_rfl⟩
theorem good_325 : Go.Vm.Good Try.prog sid (fun f => fnIds.lookup f) (325, ir325) := .inl ⟨rfl, Try.f14, [], Try.func14, by kernel_rfl, by kernel_rfl⟩
theorem good_212 : Go.Vm.Good Try.prog sid (fun f => fnIds.lookup f) (212, ir212) := .inl ⟨rfl, Try.f5, [], Try.func5, by kernel_rfl, by kernel_rfl⟩
theorem good_383 : Go.Vm.Good Try.prog sid (fun f => fnIds.lookup f) (383, ir383) := .inl ⟨rfl, Try.f58, [], Try.func58, by kernel_rfl, by kernel_rfl⟩
theorem good_384 : Go.Vm.Good Try.prog sid (fun f => fnIds.lookup f) (384, ir384) := .inl ⟨rfl, Try.f59, [], Try.func59, by kernel_rfl, by kernel_rfl⟩
theorem good_375 : Go.Vm.Good Try.prog sid (fun f => fnIds.lookup f) (375, ir375) := .inl ⟨rfl, Try.f44, [], Try.func44, by kernel_rfl, by kernel_rfl⟩
theorem good_333 : Go.Vm.Good Try.prog sid (fun f => fnIds.lookup f) (333, ir333) := .inl ⟨rfl, Try.f24, [], Try.func24, by kernel_rfl, by kernel_rfl⟩
theorem good_382 : Go.Vm.Good Try.prog sid (fun f => fnIds.lookup f) (382, ir382) := .inl ⟨rfl, Try.f56, [], Try.func56, by kernel_rfl, by kernel_rfl⟩
theorem good_332 : Go.Vm.Good Try.prog sid (fun f => fnIds.lookup f) (332, ir332) := .inl ⟨rfl, Try.f23, [], Try.func23, by kernel_rfl, by kernel_rfl⟩
theorem good_219 : Go.Vm.Good Try.prog sid (fun f => fnIds.lookup f) (219, ir219) := .inl ⟨rfl, Try.f12, [], Try.func12, by kernel_rfl, by kernel_rfl⟩
theorem good_354 : Go.Vm.Good Try.prog sid (fun f => fnIds.lookup f) (354, ir354) := .inl ⟨rfl, Try.f62, [], Try.func62, by kernel_rfl, by kernel_rfl⟩
theorem good_302 : Go.Vm.Good Try.prog sid (fun f => fnIds.lookup f) (302, ir302) := .inl ⟨rfl, Try.f47, [], Try.func47, by kernel_rfl, by kernel_rfl⟩
theorem good_287 : Go.Vm.Good Try.prog sid (fun f => fnIds.lookup f) (287, ir287) := .inl ⟨rfl, Try.f26, [], Try.func26, by kernel_rfl, by kernel_rfl⟩
theorem good_220 : Go.Vm.Good Try.prog sid (fun f => fnIds.lookup f) (220, ir220) := .inl ⟨rfl, Try.f13, [], Try.func13, by kernel_rfl, by kernel_rfl⟩
theorem good_213 : Go.Vm.Good Try.prog sid (fun f => fnIds.lookup f) (213, ir213) := .inl ⟨rfl, Try.f6, [], Try.func6, by kernel_rfl, by kernel_rfl⟩
theorem good_326 : Go.Vm.Good Try.prog sid (fun f => fnIds.lookup f) (326, ir326) := .inl ⟨rfl, Try.f16, [], Try.func16, by kernel_rfl, by kernel_rfl⟩
theorem good_369 : Go.Vm.Good Try.prog sid (fun f => fnIds.lookup f) (369, ir369) := .inl ⟨rfl, Try.f36, [], Try.func36, by kernel_rfl, by kernel_rfl⟩
theorem good_370 : Go.Vm.Good Try.prog sid (fun f => fnIds.lookup f) (370, ir370) := .inl ⟨rfl, Try.f37, [], Try.func37, by kernel_rfl, by kernel_rfl⟩
theorem good_328 : Go.Vm.Good Try.prog sid (fun f => fnIds.lookup f) (328, ir328) := .inl ⟨rfl, Try.f18, [], Try.func18, by kernel_rfl, by kernel_rfl⟩
theorem good_228 : Go.Vm.Good Try.prog sid (fun f => fnIds.lookup f) (228, ir228) := .inl ⟨rfl, Try.f53, [], Try.func53, by kernel_rfl, by kernel_rfl⟩
theorem good_368 : Go.Vm.Good Try.prog sid (fun f => fnIds.lookup f) (368, ir368) := .inl ⟨rfl, Try.f35, [], Try.func35, by kernel_rfl, by kernel_rfl⟩
theorem good_327 : Go.Vm.Good Try.prog sid (fun f => fnIds.lookup f) (327, ir327) := .inl ⟨rfl, Try.f17, [], Try.func17, by kernel_rfl, by kernel_rfl⟩
theorem good_215 : Go.Vm.Good Try.prog sid (fun f => fnIds.lookup f) (215, ir215) := .inl ⟨rfl, Try.f8, [], Try.func8, by kernel_rfl, by kernel_rfl⟩
theorem good_381 : Go.Vm.Good Try.prog sid (fun f => fnIds.lookup f) (381, ir381) := .inl ⟨rfl, Try.f55, [], Try.func55, by kernel_rfl, by kernel_rfl⟩
theorem good_371 : Go.Vm.Good Try.prog sid (fun f => fnIds.lookup f) (371, ir371) := .inl ⟨rfl, Try.f38, [], Try.func38, by kernel_rfl, by kernel_rfl⟩
theorem good_372 : Go.Vm.Good Try.prog sid (fun f => fnIds.lookup f) (372, ir372) := .inl ⟨rfl, Try.f39, [], Try.func39, by kernel_rfl, by kernel_rfl⟩
theorem good_329 : Go.Vm.Good Try.prog sid (fun f => fnIds.lookup f) (329, ir329) := .inl ⟨rfl, Try.f19, [], Try.func19, by kernel_rfl, by kernel_rfl⟩
theorem good_216 : Go.Vm.Good Try.prog sid (fun f => fnIds.lookup f) (216, ir216) := .inl ⟨rfl, Try.f9, [], Try.func9, by kernel_rfl, by kernel_rfl⟩
theorem good_3373 : Go.Vm.Good Try.prog sid (fun f => fnIds.lookup f) (3373, ir3373) := .inl ⟨rfl, Try.f40, [.mbox], Try.func40, by kernel_rfl, by kernel_rfl⟩
theorem good_3330 : Go.Vm.Good Try.prog sid (fun f => fnIds.lookup f) (3330, ir3330) := .inl ⟨rfl, Try.f21, [.mbox], Try.func21, by kernel_rfl, by kernel_rfl⟩
theorem good_218 : Go.Vm.Good Try.prog sid (fun f => fnIds.lookup f) (218, ir218) := .inl ⟨rfl, Try.f11, [], Try.func11, by kernel_rfl, by kernel_rfl⟩
theorem good_52 : Go.Vm.Good Try.prog sid (fun f => fnIds.lookup f) (52, ir52) := .inl ⟨rfl, Try.f3, [], Try.func3, by kernel_rfl, by kernel_rfl⟩
theorem tab : FnTab Try.prog sid (fun f => fnIds.lookup f) Tb := fnTab_of fnIds sid_ok (by kernel_rfl) tbl (by
 unfold tbl
 intro p hp
 simp only [List.mem_cons, List.not_mem_nil, or_false] at hp
 rcases hp with rfl | rfl | rfl | rfl | rfl | rfl | rfl | rfl | rfl | rfl | rfl | rfl | rfl | rfl | rfl | rfl | rfl | rfl | rfl | rfl | rfl | rfl | rfl | rfl | rfl | rfl | rfl | rfl | rfl | rfl | rfl | rfl | rfl | rfl | rfl | rfl | rfl | rfl | rfl | rfl | rfl | rfl | rfl | rfl | rfl | rfl | rfl | rfl | rfl | rfl | rfl | rfl | rfl | rfl | rfl | rfl | rfl | rfl
 ·exact good_108
 ·exact good_246
 ·exact good_341
 ·exact good_234
 ·exact good_229
 ·exact good_374
 ·exact good_230
 ·exact good_285
 ·exact good_331
 ·exact good_366
 ·exact good_3361
 ·exact good_3317
 ·exact good_3252
 ·exact good_345
 ·exact good_3250
 ·exact good_3363
 ·exact good_217
 ·exact good_2346
 ·exact good_376
 ·exact good_334
 ·exact good_232
 ·exact good_214
 ·exact good_335
 ·exact good_367
 ·exact good_380
 ·exact good_3364
 ·exact good_3365
 ·exact good_325
 ·exact good_212
 ·exact good_383
 ·exact good_384
 ·exact good_375
 ·exact good_333
 ·exact good_382
 ·exact good_332
 ·exact good_219
 ·exact good_354
 ·exact good_302
 ·exact good_287
 ·exact good_220
 ·exact good_213
 ·exact good_326
 ·exact good_369
 ·exact good_370
 ·exact good_328
 ·exact good_228
 ·exact good_368
 ·exact good_327
 ·exact good_215
 ·exact good_381
 ·exact good_371
 ·exact good_372
 ·exact good_329
 ·exact good_216
 ·exact good_3373
 ·exact good_3330
 ·exact good_218
 ·exact good_52)
set_option maxRecDepth 100000 in
theorem lifted (os : Os) (started : os.Started) (H : Type) (enc : TypeId × Value → H) :
  ReturnsInHanded {} Try.checked os 3 .any (Rows.fnFollowsSpec.pre6 enc Try.prog Try.f3 Rows.fnFollowsRow.domain false) (Rows.fnFollowsSpec.post enc Try.prog Try.f3 false true false false) := by
 refine returnsInHanded_of_change (C := Try.checked) own started (by kernel_rfl) Try.func3
  (ChangeSpec.witness6 (enc := enc) (C := Try.checked) false ⟨#[], #[.slice none 0 0], []⟩ 8 (by kernel_rfl) (by kernel_rfl) (by kernel_rfl) (by kernel_rfl)) ?_
 intro W base args ds gs before hval hW _ _
 exact law_contract (C := Try.checked) (modes := md) (m := 8) tab (g := 52) (fn := Try.f3) (ls := [(false, [.row [.int .u8]])]) (by kernel_rfl) ans52 (s := Rows.fnFollowsSpec) rfl (fun H ds h => by
   have h' : ds.length = 1 := h
   match ds, h' with
   | [_], _ => rfl) (tb := 4) (by kernel_rfl) (by kernel_rfl) laidOut (by
   intro t ht
   have key : ∀ t ∈ Try.f3.params.toList, Try.prog.readableRec t = true ∧ t < Try.prog.types.size := by
    rw [show Try.f3.params.toList = [22] by kernel_rfl]
    intro t ht
    simp only [List.mem_cons, List.not_mem_nil, or_false] at ht
    rcases ht with rfl <;> exact ⟨by kernel_rfl, of_decide_eq_true (by kernel_rfl)⟩
   exact key t ht) W base args ds gs before hval hW
theorem holds : Rows.FnFollowsSaid :=
 OpenClaim.holds_of_wide 3 Try.f3 rfl rfl rfl rfl rfl rfl rfl ⟨rfl, rfl, rfl, rfl, rfl⟩ rfl rfl rfl rfl rfl (by kernel_rfl) Try.func3 (by kernel_rfl)
  (of_decide_eq_true (by kernel_rfl)) (by unfold Func.isWrapper; rw [if_neg (by decide +kernel)]; exact ⟨rfl, rfl⟩)
  (fun os started H enc _ => lifted os started H enc)
#print axioms holds
end Go.Proofs.Ytmojgceacpclpaa
