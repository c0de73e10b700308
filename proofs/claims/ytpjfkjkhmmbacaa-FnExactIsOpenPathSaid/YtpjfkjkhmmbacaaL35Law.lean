/- FnExactIsOpenPath: whatever the input, the law returns true and each argument reads behind the call as it read before; no condition. -/
import Derived.Test.YtpjfkjkhmmbacaaRows
import Derived.Test.YtpjfkjkhmmbacaaL35Fns
import Derived.ProofKit
set_option maxHeartbeats 4000000
set_option maxRecDepth 10000
set_option linter.unusedVariables false
set_option linter.unusedSimpArgs false
namespace Go.Proofs.Ytpjfkjkhmmbacaa
open Go.ChangeShapes Go.WideShapes Go.ChangeAt Go.RowKit Go.Vm
def fnIds : List (Nat × Nat) := [(2, 2), (3, 23), (4, 24), (5, 25), (6, 26), (7, 27), (8, 28), (9, 29), (10, 30), (11, 32), (12, 33), (13, 34), (14, 35), (15, 83), (16, 142), (17, 85), (18, 113), (19, 78), (20, 70), (21, 143), (22, 72), (23, 144), (24, 74), (25, 145), (26, 146), (27, 147), (28, 148), (29, 149), (30, 150), (31, 79), (32, 1081), (33, 1080), (34, 125), (35, 126), (36, 151), (37, 128), (38, 152), (39, 129), (40, 1153), (41, 154), (42, 155), (43, 119), (44, 156), (45, 157), (46, 76), (47, 158), (48, 82), (49, 160), (50, 161), (51, 162), (52, 163), (53, 164), (54, 165), (55, 101), (56, 166), (57, 103), (58, 167), (59, 105), (60, 227), (61, 197), (62, 257), (63, 271), (64, 199), (65, 255), (66, 258), (67, 200), (68, 282), (69, 71), (70, 230), (71, 283), (72, 120), (73, 114), (74, 73), (75, 232), (76, 284), (77, 121), (78, 285), (79, 286), (80, 228), (81, 287), (82, 288), (83, 289), (84, 290), (85, 291), (86, 292), (87, 179), (88, 1201), (89, 127), (90, 293), (91, 118), (92, 294), (93, 295), (94, 296), (95, 266), (96, 264), (97, 267), (98, 236), (99, 297), (100, 298), (101, 299), (102, 301), (103, 302), (104, 303), (105, 304), (106, 305), (107, 56), (108, 196), (109, 75), (110, 58), (111, 182), (112, 77), (113, 60), (114, 319), (115, 231), (116, 320), (117, 233), (118, 321), (119, 268), (120, 234), (121, 235), (122, 269), (123, 351), (124, 352), (125, 229), (126, 307), (127, 280), (128, 347), (129, 354), (130, 223), (131, 355), (132, 279), (133, 173), (134, 261), (135, 174), (136, 336), (137, 340), (138, 348), (139, 341), (140, 349), (141, 337), (142, 68), (143, 69), (144, 310), (145, 311), (146, 377), (147, 358), (148, 359)]
def sid (g : Nat) : Nat := ((fnIds.find? fun p => p.2 == g).map (·.1)).getD 0
theorem sid_ok : ∀ p ∈ fnIds, sid p.2 = p.1 := by decide +kernel
theorem own : ownKnob Try.prog.godebug = none := by kernel_rfl
theorem laidOut : laidOutB Try.prog = true := by kernel_rfl
theorem good_227 : Go.Vm.Good Try.prog sid (fun f => fnIds.lookup f) (227, ir227) := .inl ⟨rfl, Try.f60, [], Try.func60, by kernel_rfl, by kernel_rfl⟩
theorem good_56 : Go.Vm.Good Try.prog sid (fun f => fnIds.lookup f) (56, ir56) := .inl ⟨rfl, Try.f107, [], Try.func107, by kernel_rfl, by kernel_rfl⟩
theorem good_101 : Go.Vm.Good Try.prog sid (fun f => fnIds.lookup f) (101, ir101) := .inl ⟨rfl, Try.f55, [], Try.func55, by kernel_rfl, by kernel_rfl⟩
theorem good_76 : Go.Vm.Good Try.prog sid (fun f => fnIds.lookup f) (76, ir76) := .inl ⟨rfl, Try.f46, [], Try.func46, by kernel_rfl, by kernel_rfl⟩
theorem good_58 : Go.Vm.Good Try.prog sid (fun f => fnIds.lookup f) (58, ir58) := .inl ⟨rfl, Try.f110, [], Try.func110, by kernel_rfl, by kernel_rfl⟩
theorem good_103 : Go.Vm.Good Try.prog sid (fun f => fnIds.lookup f) (103, ir103) := .inl ⟨rfl, Try.f57, [], Try.func57, by kernel_rfl, by kernel_rfl⟩
theorem good_79 : Go.Vm.Good Try.prog sid (fun f => fnIds.lookup f) (79, ir79) := .inl ⟨rfl, Try.f31, [], Try.func31, by kernel_rfl, by kernel_rfl⟩
theorem good_60 : Go.Vm.Good Try.prog sid (fun f => fnIds.lookup f) (60, ir60) := .inl ⟨rfl, Try.f113, [], Try.func113, by kernel_rfl, by kernel_rfl⟩
theorem good_105 : Go.Vm.Good Try.prog sid (fun f => fnIds.lookup f) (105, ir105) := .inl ⟨rfl, Try.f59, [], Try.func59, by kernel_rfl, by kernel_rfl⟩
theorem good_230 : Go.Vm.Good Try.prog sid (fun f => fnIds.lookup f) (230, ir230) := .inl ⟨rfl, Try.f70, [], Try.func70, by kernel_rfl, by kernel_rfl⟩
theorem good_257 : Go.Vm.Good Try.prog sid (fun f => fnIds.lookup f) (257, ir257) := .inl ⟨rfl, Try.f62, [], Try.func62, by kernel_rfl, by kernel_rfl⟩
theorem good_231 : Go.Vm.Good Try.prog sid (fun f => fnIds.lookup f) (231, ir231) := .inl ⟨rfl, Try.f115, [], Try.func115, by kernel_rfl, by kernel_rfl⟩
theorem good_286 : Go.Vm.Good Try.prog sid (fun f => fnIds.lookup f) (286, ir286) := .inl ⟨rfl, Try.f79, [], Try.func79, by kernel_rfl, by kernel_rfl⟩
theorem good_271 : Go.Vm.Good Try.prog sid (fun f => fnIds.lookup f) (271, ir271) := .inl ⟨rfl, Try.f63, [], Try.func63, by kernel_rfl, by kernel_rfl⟩
theorem good_142 : Go.Vm.Good Try.prog sid (fun f => fnIds.lookup f) (142, ir142) := .inl ⟨rfl, Try.f16, [], Try.func16, by kernel_rfl, by kernel_rfl⟩
theorem good_285 : Go.Vm.Good Try.prog sid (fun f => fnIds.lookup f) (285, ir285) := .inl ⟨rfl, Try.f78, [], Try.func78, by kernel_rfl, by kernel_rfl⟩
theorem good_68 : Go.Vm.Good Try.prog sid (fun f => fnIds.lookup f) (68, ir68) := .inl ⟨rfl, Try.f142, [], Try.func142, by kernel_rfl, by kernel_rfl⟩
theorem good_173 : Go.Vm.Good Try.prog sid (fun f => fnIds.lookup f) (173, ir173) := .inl ⟨rfl, Try.f133, [], Try.func133, by kernel_rfl, by kernel_rfl⟩
theorem good_280 : Go.Vm.Good Try.prog sid (fun f => fnIds.lookup f) (280, ir280) := .inl ⟨rfl, Try.f127, [], Try.func127, by kernel_rfl, by kernel_rfl⟩
theorem good_307 : Go.Vm.Good Try.prog sid (fun f => fnIds.lookup f) (307, ir307) := .inl ⟨rfl, Try.f126, [], Try.func126, by kernel_rfl, by kernel_rfl⟩
theorem good_295 : Go.Vm.Good Try.prog sid (fun f => fnIds.lookup f) (295, ir295) := .inl ⟨rfl, Try.f93, [], Try.func93, by kernel_rfl, by kernel_rfl⟩
theorem good_279 : Go.Vm.Good Try.prog sid (fun f => fnIds.lookup f) (279, ir279) := .inl ⟨rfl, Try.f132, [], Try.func132, by kernel_rfl, by kernel_rfl⟩
theorem good_196 : Go.Vm.Good Try.prog sid (fun f => fnIds.lookup f) (196, ir196) := .inl ⟨rfl, Try.f108, [], Try.func108, by kernel_rfl, by kernel_rfl⟩
theorem good_75 : Go.Vm.Good Try.prog sid (fun f => fnIds.lookup f) (75, ir75) := .inl ⟨rfl, Try.f109, [], Try.func109, by kernel_rfl, by kernel_rfl⟩
theorem good_166 : Go.Vm.Good Try.prog sid (fun f => fnIds.lookup f) (166, ir166) := .inl ⟨rfl, Try.f56, [], Try.func56, by kernel_rfl, by kernel_rfl⟩
theorem good_232 : Go.Vm.Good Try.prog sid (fun f => fnIds.lookup f) (232, ir232) := .inl ⟨rfl, Try.f75, [], Try.func75, by kernel_rfl, by kernel_rfl⟩
theorem good_255 : Go.Vm.Good Try.prog sid (fun f => fnIds.lookup f) (255, ir255) := .inl ⟨rfl, Try.f65, [], Try.func65, by kernel_rfl, by kernel_rfl⟩
theorem good_377 : Go.Vm.Good Try.prog sid (fun f => fnIds.lookup f) (377, ir377) := .inl ⟨rfl, Try.f146, [], Try.func146, by kernel_rfl, by kernel_rfl⟩
theorem good_336 : Go.Vm.Good Try.prog sid (fun f => fnIds.lookup f) (336, ir336) := .inl ⟨rfl, Try.f136, [], Try.func136, by kernel_rfl, by kernel_rfl⟩
theorem good_340 : Go.Vm.Good Try.prog sid (fun f => fnIds.lookup f) (340, ir340) := .inl ⟨rfl, Try.f137, [], Try.func137, by kernel_rfl, by kernel_rfl⟩
theorem good_233 : Go.Vm.Good Try.prog sid (fun f => fnIds.lookup f) (233, ir233) := .inl ⟨rfl, Try.f117, [], Try.func117, by kernel_rfl, by kernel_rfl⟩
theorem good_351 : Go.Vm.Good Try.prog sid (fun f => fnIds.lookup f) (351, ir351) := .inl ⟨rfl, Try.f123, [], Try.func123, by kernel_rfl, by kernel_rfl⟩
theorem good_352 : Go.Vm.Good Try.prog sid (fun f => fnIds.lookup f) (352, ir352) := .inl ⟨rfl, Try.f124, [], Try.func124, by kernel_rfl, by kernel_rfl⟩
theorem good_290 : Go.Vm.Good Try.prog sid (fun f => fnIds.lookup f) (290, ir290) := .inl ⟨rfl, Try.f84, [], Try.func84, by kernel_rfl, by kernel_rfl⟩
theorem good_258 : Go.Vm.Good Try.prog sid (fun f => fnIds.lookup f) (258, ir258) := .inl ⟨rfl, Try.f66, [], Try.func66, by kernel_rfl, by kernel_rfl⟩
theorem good_113 : Go.Vm.Good Try.prog sid (fun f => fnIds.lookup f) (113, ir113) := .inl ⟨rfl, Try.f18, [], Try.func18, by kernel_rfl, by kernel_rfl⟩
theorem good_264 : Go.Vm.Good Try.prog sid (fun f => fnIds.lookup f) (264, ir264) := .inl ⟨rfl, Try.f96, [], Try.func96, by kernel_rfl, by kernel_rfl⟩
theorem good_299 : Go.Vm.Good Try.prog sid (fun f => fnIds.lookup f) (299, ir299) := clone_seat sid_ok (by kernel_rfl) rfl Try.func101 (by kernel_rfl) (by kernel_rfl) (by kernel_rfl) (by kernel_rfl) (by kernel_rfl) (by kernel_rfl) (by kernel_rfl) (by kernel_rfl) (by kernel_rfl) (by kernel_rfl) (by kernel_rfl) (by kernel_rfl) (by kernel_rfl) (by kernel_rfl)
theorem good_288 : Go.Vm.Good Try.prog sid (fun f => fnIds.lookup f) (288, ir288) := .inl ⟨rfl, Try.f82, [], Try.func82, by kernel_rfl, by kernel_rfl⟩
theorem good_358 : Go.Vm.Good Try.prog sid (fun f => fnIds.lookup f) (358, ir358) := .inl ⟨rfl, Try.f147, [], Try.func147, by kernel_rfl, by kernel_rfl⟩
theorem good_354 : Go.Vm.Good Try.prog sid (fun f => fnIds.lookup f) (354, ir354) := .inl ⟨rfl, Try.f129, [], Try.func129, by kernel_rfl, by kernel_rfl⟩
theorem good_302 : Go.Vm.Good Try.prog sid (fun f => fnIds.lookup f) (302, ir302) := .inl ⟨rfl, Try.f103, [], Try.func103, by kernel_rfl, by kernel_rfl⟩
theorem good_359 : Go.Vm.Good Try.prog sid (fun f => fnIds.lookup f) (359, ir359) := .inl ⟨rfl, Try.f148, [], Try.func148, by kernel_rfl, by kernel_rfl⟩
theorem good_310 : Go.Vm.Good Try.prog sid (fun f => fnIds.lookup f) (310, ir310) := .inl ⟨rfl, Try.f144, [], Try.func144, by kernel_rfl, by kernel_rfl⟩
theorem good_311 : Go.Vm.Good Try.prog sid (fun f => fnIds.lookup f) (311, ir311) := .inl ⟨rfl, Try.f145, [], Try.func145, by kernel_rfl, by kernel_rfl⟩
theorem good_69 : Go.Vm.Good Try.prog sid (fun f => fnIds.lookup f) (69, ir69) := .inl ⟨rfl, Try.f143, [], Try.func143, by kernel_rfl, by kernel_rfl⟩
theorem good_174 : Go.Vm.Good Try.prog sid (fun f => fnIds.lookup f) (174, ir174) := .inl ⟨rfl, Try.f135, [], Try.func135, by kernel_rfl, by kernel_rfl⟩
theorem good_347 : Go.Vm.Good Try.prog sid (fun f => fnIds.lookup f) (347, ir347) := .inl ⟨rfl, Try.f128, [], Try.func128, by kernel_rfl, by kernel_rfl⟩
theorem good_266 : Go.Vm.Good Try.prog sid (fun f => fnIds.lookup f) (266, ir266) := .inl ⟨rfl, Try.f95, [], Try.func95, by kernel_rfl, by kernel_rfl⟩
theorem good_261 : Go.Vm.Good Try.prog sid (fun f => fnIds.lookup f) (261, ir261) := .inl ⟨rfl, Try.f134, [], Try.func134, by kernel_rfl, by kernel_rfl⟩
theorem good_182 : Go.Vm.Good Try.prog sid (fun f => fnIds.lookup f) (182, ir182) := .inl ⟨rfl, Try.f111, [], Try.func111, by kernel_rfl, by kernel_rfl⟩
theorem good_77 : Go.Vm.Good Try.prog sid (fun f => fnIds.lookup f) (77, ir77) := .inl ⟨rfl, Try.f112, [], Try.func112, by kernel_rfl, by kernel_rfl⟩
theorem good_167 : Go.Vm.Good Try.prog sid (fun f => fnIds.lookup f) (167, ir167) := .inl ⟨rfl, Try.f58, [], Try.func58, by kernel_rfl, by kernel_rfl⟩
theorem good_35 : Go.Vm.Good Try.prog sid (fun f => fnIds.lookup f) (35, ir35) := .inl ⟨rfl, Try.f14, [], Try.func14, by kernel_rfl, by kernel_rfl⟩
theorem tab : FnTab Try.prog sid (fun f => fnIds.lookup f) Tb := fnTab_of fnIds sid_ok (by kernel_rfl) tbl (by
  unfold tbl
  intro p hp
  simp only [List.mem_cons, List.not_mem_nil, or_false] at hp
  rcases hp with rfl | rfl | rfl | rfl | rfl | rfl | rfl | rfl | rfl | rfl | rfl | rfl | rfl | rfl | rfl | rfl | rfl | rfl | rfl | rfl | rfl | rfl | rfl | rfl | rfl | rfl | rfl | rfl | rfl | rfl | rfl | rfl | rfl | rfl | rfl | rfl | rfl | rfl | rfl | rfl | rfl | rfl | rfl | rfl | rfl | rfl | rfl | rfl | rfl | rfl | rfl | rfl | rfl | rfl
  · exact good_227
  · exact good_56
  · exact good_101
  · exact good_76
  · exact good_58
  · exact good_103
  · exact good_79
  · exact good_60
  · exact good_105
  · exact good_230
  · exact good_257
  · exact good_231
  · exact good_286
  · exact good_271
  · exact good_142
  · exact good_285
  · exact good_68
  · exact good_173
  · exact good_280
  · exact good_307
  · exact good_295
  · exact good_279
  · exact good_196
  · exact good_75
  · exact good_166
  · exact good_232
  · exact good_255
  · exact good_377
  · exact good_336
  · exact good_340
  · exact good_233
  · exact good_351
  · exact good_352
  · exact good_290
  · exact good_258
  · exact good_113
  · exact good_264
  · exact good_299
  · exact good_288
  · exact good_358
  · exact good_354
  · exact good_302
  · exact good_359
  · exact good_310
  · exact good_311
  · exact good_69
  · exact good_174
  · exact good_347
  · exact good_266
  · exact good_261
  · exact good_182
  · exact good_77
  · exact good_167
  · exact good_35)
set_option maxRecDepth 100000 in
theorem lifted (os : Os) (started : os.Started) (H : Type) (enc : TypeId × Value → H) :
    ReturnsInHanded {} Try.checked os 14 .any (Rows.fnExactIsOpenPathSpec.pre6 enc Try.prog Try.f14 Rows.fnExactIsOpenPathRow.domain false) (Rows.fnExactIsOpenPathSpec.post enc Try.prog Try.f14 false true false false) := by
  refine returnsInHanded_of_change (C := Try.checked) own started (by kernel_rfl) Try.func14
    (ChangeSpec.witness6 (enc := enc) (C := Try.checked) false ⟨#[], #[.slice none 0 0, .slice none 0 0], []⟩ 8 (by kernel_rfl) (by kernel_rfl) (by kernel_rfl) (by kernel_rfl)) ?_
  intro W base args ds gs before hval hW _ _
  exact law_contract (C := Try.checked) (modes := md) (m := 8) tab (g := 35) (fn := Try.f14) (ls := [(false, [.row [.int .i64, .row [.int .i64], .row [.int .i64], .bool]]), (false, [.row [.int .i64]])]) (by kernel_rfl) ans35 (s := Rows.fnExactIsOpenPathSpec) rfl (fun H ds h => by
      have h' : ds.length = 2 := h
      match ds, h' with
      | [_, _], _ => rfl) (tb := 4) (by kernel_rfl) (by kernel_rfl) laidOut (by
      intro t ht
      have key : ∀ t ∈ Try.f14.params.toList, Try.prog.readableRec t = true ∧ t < Try.prog.types.size := by
        rw [show Try.f14.params.toList = [71, 22] by kernel_rfl]
        intro t ht
        simp only [List.mem_cons, List.not_mem_nil, or_false] at ht
        rcases ht with rfl | rfl <;> exact ⟨by kernel_rfl, of_decide_eq_true (by kernel_rfl)⟩
      exact key t ht) W base args ds gs before hval hW

theorem holds : Rows.FnExactIsOpenPathSaid :=
  OpenClaim.holds_of_wide 14 Try.f14 rfl rfl rfl rfl rfl rfl rfl ⟨rfl, rfl, rfl, rfl, rfl⟩ rfl rfl rfl rfl rfl (by kernel_rfl) Try.func14 (by kernel_rfl)
    (of_decide_eq_true (by kernel_rfl)) (by unfold Func.isWrapper; rw [if_neg (by decide +kernel)]; exact ⟨rfl, rfl⟩)
    (fun os started H enc _ => lifted os started H enc)
#print axioms holds
end Go.Proofs.Ytpjfkjkhmmbacaa
