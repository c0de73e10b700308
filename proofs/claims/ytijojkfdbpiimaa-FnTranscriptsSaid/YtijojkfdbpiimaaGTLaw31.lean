/- FnTranscripts: whatever the input, the law returns true and each argument reads behind the call as it read before; no condition. -/
import Derived.Test.YtijojkfdbpiimaaRows
import Derived.Test.YtijojkfdbpiimaaGTN31
import Derived.Test.YtijojkfdbpiimaaVmX
import Derived.ProofKit
set_option maxHeartbeats 4000000
set_option maxRecDepth 10000
set_option linter.unusedVariables false
set_option linter.unusedSimpArgs false
namespace Go.Proofs.Ytijojkfdbpiimaa
open Go.ChangeShapes Go.WideShapes Go.ChangeAt Go.RowKit Go.Vm
def fnIds : List (Nat × Nat) := [(2, 2), (3, 24), (4, 25), (5, 31), (6, 33), (7, 39), (8, 41), (9, 50), (10, 70), (11, 143), (12, 72), (13, 144), (14, 74), (15, 145), (16, 146), (17, 108), (18, 159), (19, 90), (20, 89), (21, 83), (22, 162), (23, 85), (24, 163), (25, 79), (26, 78), (27, 1081), (28, 1080), (29, 125), (30, 176), (31, 174), (32, 59), (33, 113), (34, 131), (35, 177), (36, 178), (37, 179), (38, 180), (39, 181), (40, 182), (41, 104), (42, 102), (43, 190), (44, 186), (45, 171), (46, 167), (47, 191), (48, 165), (49, 164), (50, 77), (51, 209), (52, 155), (53, 117), (54, 82), (55, 227), (56, 282), (57, 71), (58, 230), (59, 283), (60, 120), (61, 76), (62, 114), (63, 73), (64, 232), (65, 284), (66, 121), (67, 246), (68, 3300), (69, 3252), (70, 237), (71, 228), (72, 197), (73, 142), (74, 293), (75, 199), (76, 294), (77, 304), (78, 200), (79, 1201), (80, 3312), (81, 3251), (82, 69), (83, 310), (84, 299), (85, 264), (86, 311), (87, 302), (88, 255), (89, 258), (90, 229), (91, 273), (92, 188), (93, 3313), (94, 3250), (95, 261), (96, 243), (97, 244), (98, 57), (99, 3315), (100, 3316), (101, 185), (102, 3317), (103, 3249), (104, 287), (105, 305), (106, 285), (107, 279), (108, 323), (109, 324), (110, 296), (111, 295), (112, 271), (113, 262), (114, 263), (115, 265), (116, 266), (117, 236), (118, 231), (119, 268), (120, 234), (121, 235), (122, 233), (123, 269), (124, 3353), (125, 319), (126, 257), (127, 320), (128, 355), (129, 321), (130, 3360), (131, 3247), (132, 358), (133, 288), (134, 359), (135, 354), (136, 290), (137, 350), (138, 291), (139, 343), (140, 68), (141, 3248), (142, 3344), (143, 3361), (144, 345), (145, 362), (146, 307), (147, 280), (148, 286), (149, 2346), (150, 347), (151, 348), (152, 341), (153, 336), (154, 340), (155, 349), (156, 351), (157, 352), (158, 2378), (159, 379), (160, 377), (161, 2385), (162, 386), (163, 387), (164, 388), (165, 389), (166, 390), (167, 391), (168, 392), (169, 393), (170, 394), (171, 395), (172, 396), (173, 397), (174, 398), (175, 399), (176, 400), (177, 401), (178, 402)]
def sid (g : Nat) : Nat := ((fnIds.find? fun p => p.2 == g).map (·.1)).getD 0
theorem sid_ok : ∀ p ∈ fnIds, sid p.2 = p.1 := by decide +kernel
theorem own : ownKnob Try.prog.godebug = none := by kernel_rfl
theorem laidOut : laidOutB Try.prog = true := by kernel_rfl
def laysGrow_ren : Go.Shelf.Ren := ⟨fun | 4 => 128 | n => n, fun | 22 => 33 | 25 => 3 | 3 => 3 | 4 => 4 | 9 => 9 | 20 => 20 | 0 => 0 | n => n, fun | n => n⟩
theorem laysGrow : Go.Proofs.Lays8.n4 Try.prog laysGrow_ren := {
 mixed := by kernel_rfl
 f4 := ⟨Try.f128.name, by decide, Try.func128.trans (congrArg some (by kernel_rfl))⟩
 t0 := Try.underlying0
 a0 := Try.isAgg0
 z0 := Try.sizeOf0
 v0 := Try.zeroValue0
 t3 := Try.underlying3
 a3 := Try.isAgg3
 z3 := Try.sizeOf3
 v3 := Try.zeroValue3
 t4 := Try.underlying4
 a4 := Try.isAgg4
 z4 := Try.sizeOf4
 v4 := Try.zeroValue4
 t9 := Try.underlying9
 a9 := Try.isAgg9
 z9 := Try.sizeOf9
 v9 := Try.zeroValue9
 t20 := Try.underlying20
 a20 := Try.isAgg20
 z20 := Try.sizeOf20
 v20 := Try.zeroValue20
 t22 := Try.underlying33
 a22 := Try.isAgg33
 z22 := Try.sizeOf33
 v22 := Try.zeroValue33 }
theorem good_108 : Go.Vm.Good Try.prog sid (fun f => fnIds.lookup f) (108, ir108) := .inl ⟨rfl, Try.f17, [], Try.func17, by kernel_rfl, by kernel_rfl⟩
theorem good_230 : Go.Vm.Good Try.prog sid (fun f => fnIds.lookup f) (230, ir230) := .inl ⟨rfl, Try.f58, [], Try.func58, by kernel_rfl, by kernel_rfl⟩
theorem good_348 : Go.Vm.Good Try.prog sid (fun f => fnIds.lookup f) (348, ir348) := .inl ⟨rfl, Try.f151, [], Try.func151, by kernel_rfl, by kernel_rfl⟩
theorem good_268 : Go.Vm.Good Try.prog sid (fun f => fnIds.lookup f) (268, ir268) := .inl ⟨rfl, Try.f119, [], Try.func119, by kernel_rfl, by kernel_rfl⟩
theorem good_231 : Go.Vm.Good Try.prog sid (fun f => fnIds.lookup f) (231, ir231) := .inl ⟨rfl, Try.f118, [], Try.func118, by kernel_rfl, by kernel_rfl⟩
theorem good_71 : Go.Vm.Good Try.prog sid (fun f => fnIds.lookup f) (71, ir71) := .inl ⟨rfl, Try.f57, [], Try.func57, by kernel_rfl, by kernel_rfl⟩
theorem good_120 : Go.Vm.Good Try.prog sid (fun f => fnIds.lookup f) (120, ir120) := .inl ⟨rfl, Try.f60, [], Try.func60, by kernel_rfl, by kernel_rfl⟩
theorem good_282 : Go.Vm.Good Try.prog sid (fun f => fnIds.lookup f) (282, ir282) := .inl ⟨rfl, Try.f56, [], Try.func56, by kernel_rfl, by kernel_rfl⟩
theorem good_283 : Go.Vm.Good Try.prog sid (fun f => fnIds.lookup f) (283, ir283) := .inl ⟨rfl, Try.f59, [], Try.func59, by kernel_rfl, by kernel_rfl⟩
theorem good_143 : Go.Vm.Good Try.prog sid (fun f => fnIds.lookup f) (143, ir143) := .inl ⟨rfl, Try.f11, [], Try.func11, by kernel_rfl, by kernel_rfl⟩
theorem good_232 : Go.Vm.Good Try.prog sid (fun f => fnIds.lookup f) (232, ir232) := .inl ⟨rfl, Try.f64, [], Try.func64, by kernel_rfl, by kernel_rfl⟩
theorem good_114 : Go.Vm.Good Try.prog sid (fun f => fnIds.lookup f) (114, ir114) := .inl ⟨rfl, Try.f62, [], Try.func62, by kernel_rfl, by kernel_rfl⟩
theorem good_349 : Go.Vm.Good Try.prog sid (fun f => fnIds.lookup f) (349, ir349) := .inl ⟨rfl, Try.f155, [], Try.func155, by kernel_rfl, by kernel_rfl⟩
theorem good_269 : Go.Vm.Good Try.prog sid (fun f => fnIds.lookup f) (269, ir269) := .inl ⟨rfl, Try.f123, [], Try.func123, by kernel_rfl, by kernel_rfl⟩
theorem good_341 : Go.Vm.Good Try.prog sid (fun f => fnIds.lookup f) (341, ir341) := .inl ⟨rfl, Try.f152, [], Try.func152, by kernel_rfl, by kernel_rfl⟩
theorem good_234 : Go.Vm.Good Try.prog sid (fun f => fnIds.lookup f) (234, ir234) := .inl ⟨rfl, Try.f120, [], Try.func120, by kernel_rfl, by kernel_rfl⟩
theorem good_377 : Go.Vm.Good Try.prog sid (fun f => fnIds.lookup f) (377, ir377) := .inl ⟨rfl, Try.f160, [], Try.func160, by kernel_rfl, by kernel_rfl⟩
theorem good_336 : Go.Vm.Good Try.prog sid (fun f => fnIds.lookup f) (336, ir336) := .inl ⟨rfl, Try.f153, [], Try.func153, by kernel_rfl, by kernel_rfl⟩
theorem good_340 : Go.Vm.Good Try.prog sid (fun f => fnIds.lookup f) (340, ir340) := .inl ⟨rfl, Try.f154, [], Try.func154, by kernel_rfl, by kernel_rfl⟩
theorem good_233 : Go.Vm.Good Try.prog sid (fun f => fnIds.lookup f) (233, ir233) := .inl ⟨rfl, Try.f122, [], Try.func122, by kernel_rfl, by kernel_rfl⟩
theorem good_235 : Go.Vm.Good Try.prog sid (fun f => fnIds.lookup f) (235, ir235) := .inl ⟨rfl, Try.f121, [], Try.func121, by kernel_rfl, by kernel_rfl⟩
theorem good_73 : Go.Vm.Good Try.prog sid (fun f => fnIds.lookup f) (73, ir73) := .inl ⟨rfl, Try.f63, [], Try.func63, by kernel_rfl, by kernel_rfl⟩
theorem good_121 : Go.Vm.Good Try.prog sid (fun f => fnIds.lookup f) (121, ir121) := .inl ⟨rfl, Try.f66, [], Try.func66, by kernel_rfl, by kernel_rfl⟩
theorem good_355 : Go.Vm.Good Try.prog sid (fun f => fnIds.lookup f) (355, ir355) := grow_seat (i0 := Try.t3) (z := .int .i64 0) laysGrow rfl (by kernel_rfl) (by kernel_rfl) (by kernel_rfl) (by kernel_rfl) (by decide) (by kernel_rfl)
theorem good_304 : Go.Vm.Good Try.prog sid (fun f => fnIds.lookup f) (304, ir304) := .inl ⟨rfl, Try.f77, [], Try.func77, by kernel_rfl, by kernel_rfl⟩
theorem good_284 : Go.Vm.Good Try.prog sid (fun f => fnIds.lookup f) (284, ir284) := .inl ⟨rfl, Try.f65, [], Try.func65, by kernel_rfl, by kernel_rfl⟩
theorem good_144 : Go.Vm.Good Try.prog sid (fun f => fnIds.lookup f) (144, ir144) := .inl ⟨rfl, Try.f13, [], Try.func13, by kernel_rfl, by kernel_rfl⟩
theorem good_145 : Go.Vm.Good Try.prog sid (fun f => fnIds.lookup f) (145, ir145) := .inl ⟨rfl, Try.f15, [], Try.func15, by kernel_rfl, by kernel_rfl⟩
theorem good_146 : Go.Vm.Good Try.prog sid (fun f => fnIds.lookup f) (146, ir146) := .inl ⟨rfl, Try.f16, [], Try.func16, by kernel_rfl, by kernel_rfl⟩
theorem good_246 : Go.Vm.Good Try.prog sid (fun f => fnIds.lookup f) (246, ir246) := .inl ⟨rfl, Try.f67, [], Try.func67, by kernel_rfl, by kernel_rfl⟩
theorem good_3361 : Go.Vm.Good Try.prog sid (fun f => fnIds.lookup f) (3361, ir3361) := .inl ⟨rfl, Try.f143, [.mbox], Try.func143, by kernel_rfl, by kernel_rfl⟩
theorem good_3317 : Go.Vm.Good Try.prog sid (fun f => fnIds.lookup f) (3317, ir3317) := .inl ⟨rfl, Try.f102, [.mbox], Try.func102, by kernel_rfl, by kernel_rfl⟩
theorem good_3252 : Go.Vm.Good Try.prog sid (fun f => fnIds.lookup f) (3252, ir3252) := .inl ⟨rfl, Try.f69, [.mbox], Try.func69, by kernel_rfl, by kernel_rfl⟩
theorem good_3353 : Go.Vm.Good Try.prog sid (fun f => fnIds.lookup f) (3353, ir3353) := .inl ⟨rfl, Try.f124, [.mbox], Try.func124, by kernel_rfl, by kernel_rfl⟩
theorem good_3300 : Go.Vm.Good Try.prog sid (fun f => fnIds.lookup f) (3300, ir3300) := .inl ⟨rfl, Try.f68, [.mbox], Try.func68, by kernel_rfl, by kernel_rfl⟩
theorem good_159 : Go.Vm.Good Try.prog sid (fun f => fnIds.lookup f) (159, ir159) := .inl ⟨rfl, Try.f18, [], Try.func18, by kernel_rfl, by kernel_rfl⟩
theorem good_228 : Go.Vm.Good Try.prog sid (fun f => fnIds.lookup f) (228, ir228) := .inl ⟨rfl, Try.f71, [], Try.func71, by kernel_rfl, by kernel_rfl⟩
theorem good_89 : Go.Vm.Good Try.prog sid (fun f => fnIds.lookup f) (89, ir89) := .inl ⟨rfl, Try.f20, [], Try.func20, by kernel_rfl, by kernel_rfl⟩
theorem good_229 : Go.Vm.Good Try.prog sid (fun f => fnIds.lookup f) (229, ir229) := .inl ⟨rfl, Try.f90, [], Try.func90, by kernel_rfl, by kernel_rfl⟩
theorem good_177 : Go.Vm.Good Try.prog sid (fun f => fnIds.lookup f) (177, ir177) := .inl ⟨rfl, Try.f35, [], Try.func35, by kernel_rfl, by kernel_rfl⟩
theorem good_237 : Go.Vm.Good Try.prog sid (fun f => fnIds.lookup f) (237, ir237) := .inl ⟨rfl, Try.f70, [], Try.func70, by kernel_rfl, by kernel_rfl⟩
theorem good_90 : Go.Vm.Good Try.prog sid (fun f => fnIds.lookup f) (90, ir90) := .inl ⟨rfl, Try.f19, [], Try.func19, by kernel_rfl, by kernel_rfl⟩
theorem good_31 : Go.Vm.Good Try.prog sid (fun f => fnIds.lookup f) (31, ir31) := .inl ⟨rfl, Try.f5, [], Try.func5, by kernel_rfl, by kernel_rfl⟩
theorem tab : FnTab Try.prog sid (fun f => fnIds.lookup f) Tb := fnTab_of fnIds sid_ok (by kernel_rfl) tbl (by
 unfold tbl
 intro p hp
 simp only [List.mem_cons, List.not_mem_nil, or_false] at hp
 rcases hp with rfl | rfl | rfl | rfl | rfl | rfl | rfl | rfl | rfl | rfl | rfl | rfl | rfl | rfl | rfl | rfl | rfl | rfl | rfl | rfl | rfl | rfl | rfl | rfl | rfl | rfl | rfl | rfl | rfl | rfl | rfl | rfl | rfl | rfl | rfl | rfl | rfl | rfl | rfl | rfl | rfl | rfl | rfl
 ·exact good_108
 ·exact good_230
 ·exact good_348
 ·exact good_268
 ·exact good_231
 ·exact good_71
 ·exact good_120
 ·exact good_282
 ·exact good_283
 ·exact good_143
 ·exact good_232
 ·exact good_114
 ·exact good_349
 ·exact good_269
 ·exact good_341
 ·exact good_234
 ·exact good_377
 ·exact good_336
 ·exact good_340
 ·exact good_233
 ·exact good_235
 ·exact good_73
 ·exact good_121
 ·exact good_355
 ·exact good_304
 ·exact good_284
 ·exact good_144
 ·exact good_145
 ·exact good_146
 ·exact good_246
 ·exact good_3361
 ·exact good_3317
 ·exact good_3252
 ·exact good_3353
 ·exact good_3300
 ·exact good_159
 ·exact good_228
 ·exact good_89
 ·exact good_229
 ·exact good_177
 ·exact good_237
 ·exact good_90
 ·exact good_31)
set_option maxRecDepth 100000 in
theorem lifted (os : Os) (started : os.Started) (H : Type) (enc : TypeId × Value → H) :
  ReturnsInHanded {} Try.checked os 5 .any (Rows.fnTranscriptsSpec.pre6 enc Try.prog Try.f5 Rows.fnTranscriptsRow.domain false) (Rows.fnTranscriptsSpec.post enc Try.prog Try.f5 false true false false) := by
 refine returnsInHanded_of_change (C := Try.checked) own started (by kernel_rfl) Try.func5
  (ChangeSpec.witness6 (enc := enc) (C := Try.checked) false ⟨#[], #[.slice none 0 0], []⟩ 8 (by kernel_rfl) (by kernel_rfl) (by kernel_rfl) (by kernel_rfl)) ?_
 intro W base args ds gs before hval hW _ _
 exact law_contract (C := Try.checked) (modes := md) (m := 8) tab (g := 31) (fn := Try.f5) (ls := [(false, [.row [.int .u8]])]) (by kernel_rfl) ans31 (s := Rows.fnTranscriptsSpec) rfl (fun H ds h => by
   have h' : ds.length = 1 := h
   match ds, h' with
   | [_], _ => rfl) (tb := 4) (by kernel_rfl) (by kernel_rfl) laidOut (by
   intro t ht
   have key : ∀ t ∈ Try.f5.params.toList, Try.prog.readableRec t = true ∧ t < Try.prog.types.size := by
    rw [show Try.f5.params.toList = [29] by kernel_rfl]
    intro t ht
    simp only [List.mem_cons, List.not_mem_nil, or_false] at ht
    rcases ht with rfl <;> exact ⟨by kernel_rfl, of_decide_eq_true (by kernel_rfl)⟩
   exact key t ht) W base args ds gs before hval hW
theorem holds : Rows.FnTranscriptsSaid :=
 OpenClaim.holds_of_wide 5 Try.f5 rfl rfl rfl rfl rfl rfl rfl ⟨rfl, rfl, rfl, rfl, rfl⟩ rfl rfl rfl rfl rfl (by kernel_rfl) Try.func5 (by kernel_rfl)
  (of_decide_eq_true (by kernel_rfl)) (by unfold Func.isWrapper; rw [if_neg (by decide +kernel)]; exact ⟨rfl, rfl⟩)
  (fun os started H enc _ => lifted os started H enc)
#print axioms holds
end Go.Proofs.Ytijojkfdbpiimaa
