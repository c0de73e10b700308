/- FnExactIsAnswer: whatever the input, the law returns true and each argument reads behind the call as it read before; no condition. -/
import Derived.Test.YtplnbpiaacohnaaRows
import Derived.Test.YtplnbpiaacohnaaL18Fns
import Derived.ProofKit
set_option maxHeartbeats 4000000
set_option maxRecDepth 10000
set_option linter.unusedVariables false
set_option linter.unusedSimpArgs false
namespace Go.Proofs.Ytplnbpiaacohnaa
open Go.ChangeShapes Go.WideShapes Go.ChangeAt Go.RowKit Go.Vm
def fnIds : List (Nat × Nat) := [(2, 2), (3, 10), (4, 11), (5, 12), (6, 13), (7, 14), (8, 16), (9, 17), (10, 18), (11, 19), (12, 20), (13, 21), (14, 70), (15, 89), (16, 72), (17, 90), (18, 74), (19, 91), (20, 92), (21, 93), (22, 94), (23, 95), (24, 96), (25, 97), (26, 98), (27, 99), (28, 100), (29, 101), (30, 102), (31, 103), (32, 104), (33, 105), (34, 106), (35, 107), (36, 120), (37, 121), (38, 122), (39, 123), (40, 79), (41, 1124), (42, 1080), (43, 125), (44, 126), (45, 127), (46, 128), (47, 118), (48, 129), (49, 83), (50, 130), (51, 85), (52, 131), (53, 78), (54, 132), (55, 133), (56, 134), (57, 135), (58, 76), (59, 136), (60, 227), (61, 228), (62, 237), (63, 177), (64, 61), (65, 62), (66, 63), (67, 64), (68, 229), (69, 65), (70, 238), (71, 230), (72, 239), (73, 232), (74, 233), (75, 240), (76, 241), (77, 242), (78, 56), (79, 57), (80, 58), (81, 243), (82, 244), (83, 59), (84, 60), (85, 245), (86, 71), (87, 268), (88, 73), (89, 269), (90, 270), (91, 197), (92, 271), (93, 199), (94, 258), (95, 200), (96, 272), (97, 273), (98, 274), (99, 275), (100, 276), (101, 277), (102, 278), (103, 336), (104, 340), (105, 342), (106, 68), (107, 343), (108, 231), (109, 348), (110, 234), (111, 235), (112, 349), (113, 319), (114, 286), (115, 320), (116, 290), (117, 321), (118, 350), (119, 291), (120, 377), (121, 341), (122, 351), (123, 352)]
def sid (g : Nat) : Nat := ((fnIds.find? fun p => p.2 == g).map (·.1)).getD 0
theorem sid_ok : ∀ p ∈ fnIds, sid p.2 = p.1 := by decide +kernel
theorem own : ownKnob Try.prog.godebug = none := by kernel_rfl
theorem laidOut : laidOutB Try.prog = true := by kernel_rfl
theorem good_230 : Go.Vm.Good Try.prog sid (fun f => fnIds.lookup f) (230, ir230) := .inl ⟨rfl, Try.f71, [], Try.func71, by kernel_rfl, by kernel_rfl⟩
theorem good_231 : Go.Vm.Good Try.prog sid (fun f => fnIds.lookup f) (231, ir231) := .inl ⟨rfl, Try.f108, [], Try.func108, by kernel_rfl, by kernel_rfl⟩
theorem good_286 : Go.Vm.Good Try.prog sid (fun f => fnIds.lookup f) (286, ir286) := .inl ⟨rfl, Try.f114, [], Try.func114, by kernel_rfl, by kernel_rfl⟩
theorem good_271 : Go.Vm.Good Try.prog sid (fun f => fnIds.lookup f) (271, ir271) := .inl ⟨rfl, Try.f92, [], Try.func92, by kernel_rfl, by kernel_rfl⟩
theorem good_127 : Go.Vm.Good Try.prog sid (fun f => fnIds.lookup f) (127, ir127) := .inl ⟨rfl, Try.f45, [], Try.func45, by kernel_rfl, by kernel_rfl⟩
theorem good_232 : Go.Vm.Good Try.prog sid (fun f => fnIds.lookup f) (232, ir232) := .inl ⟨rfl, Try.f73, [], Try.func73, by kernel_rfl, by kernel_rfl⟩
theorem good_377 : Go.Vm.Good Try.prog sid (fun f => fnIds.lookup f) (377, ir377) := .inl ⟨rfl, Try.f120, [], Try.func120, by kernel_rfl, by kernel_rfl⟩
theorem good_336 : Go.Vm.Good Try.prog sid (fun f => fnIds.lookup f) (336, ir336) := .inl ⟨rfl, Try.f103, [], Try.func103, by kernel_rfl, by kernel_rfl⟩
theorem good_340 : Go.Vm.Good Try.prog sid (fun f => fnIds.lookup f) (340, ir340) := .inl ⟨rfl, Try.f104, [], Try.func104, by kernel_rfl, by kernel_rfl⟩
theorem good_233 : Go.Vm.Good Try.prog sid (fun f => fnIds.lookup f) (233, ir233) := .inl ⟨rfl, Try.f74, [], Try.func74, by kernel_rfl, by kernel_rfl⟩
theorem good_351 : Go.Vm.Good Try.prog sid (fun f => fnIds.lookup f) (351, ir351) := .inl ⟨rfl, Try.f122, [], Try.func122, by kernel_rfl, by kernel_rfl⟩
theorem good_352 : Go.Vm.Good Try.prog sid (fun f => fnIds.lookup f) (352, ir352) := .inl ⟨rfl, Try.f123, [], Try.func123, by kernel_rfl, by kernel_rfl⟩
theorem good_290 : Go.Vm.Good Try.prog sid (fun f => fnIds.lookup f) (290, ir290) := .inl ⟨rfl, Try.f116, [], Try.func116, by kernel_rfl, by kernel_rfl⟩
theorem good_258 : Go.Vm.Good Try.prog sid (fun f => fnIds.lookup f) (258, ir258) := .inl ⟨rfl, Try.f94, [], Try.func94, by kernel_rfl, by kernel_rfl⟩
theorem good_118 : Go.Vm.Good Try.prog sid (fun f => fnIds.lookup f) (118, ir118) := .inl ⟨rfl, Try.f47, [], Try.func47, by kernel_rfl, by kernel_rfl⟩
theorem good_227 : Go.Vm.Good Try.prog sid (fun f => fnIds.lookup f) (227, ir227) := .inl ⟨rfl, Try.f60, [], Try.func60, by kernel_rfl, by kernel_rfl⟩
theorem good_319 : Go.Vm.Good Try.prog sid (fun f => fnIds.lookup f) (319, ir319) := .inl ⟨rfl, Try.f113, [], Try.func113, by kernel_rfl, by kernel_rfl⟩
theorem good_197 : Go.Vm.Good Try.prog sid (fun f => fnIds.lookup f) (197, ir197) := .inl ⟨rfl, Try.f91, [], Try.func91, by kernel_rfl, by kernel_rfl⟩
theorem good_126 : Go.Vm.Good Try.prog sid (fun f => fnIds.lookup f) (126, ir126) := .inl ⟨rfl, Try.f44, [], Try.func44, by kernel_rfl, by kernel_rfl⟩
theorem good_76 : Go.Vm.Good Try.prog sid (fun f => fnIds.lookup f) (76, ir76) := .inl ⟨rfl, Try.f58, [], Try.func58, by kernel_rfl, by kernel_rfl⟩
theorem good_320 : Go.Vm.Good Try.prog sid (fun f => fnIds.lookup f) (320, ir320) := .inl ⟨rfl, Try.f115, [], Try.func115, by kernel_rfl, by kernel_rfl⟩
theorem good_199 : Go.Vm.Good Try.prog sid (fun f => fnIds.lookup f) (199, ir199) := .inl ⟨rfl, Try.f93, [], Try.func93, by kernel_rfl, by kernel_rfl⟩
theorem good_128 : Go.Vm.Good Try.prog sid (fun f => fnIds.lookup f) (128, ir128) := .inl ⟨rfl, Try.f46, [], Try.func46, by kernel_rfl, by kernel_rfl⟩
theorem good_79 : Go.Vm.Good Try.prog sid (fun f => fnIds.lookup f) (79, ir79) := .inl ⟨rfl, Try.f40, [], Try.func40, by kernel_rfl, by kernel_rfl⟩
theorem good_321 : Go.Vm.Good Try.prog sid (fun f => fnIds.lookup f) (321, ir321) := .inl ⟨rfl, Try.f117, [], Try.func117, by kernel_rfl, by kernel_rfl⟩
theorem good_200 : Go.Vm.Good Try.prog sid (fun f => fnIds.lookup f) (200, ir200) := .inl ⟨rfl, Try.f95, [], Try.func95, by kernel_rfl, by kernel_rfl⟩
theorem good_129 : Go.Vm.Good Try.prog sid (fun f => fnIds.lookup f) (129, ir129) := .inl ⟨rfl, Try.f48, [], Try.func48, by kernel_rfl, by kernel_rfl⟩
theorem good_18 : Go.Vm.Good Try.prog sid (fun f => fnIds.lookup f) (18, ir18) := .inl ⟨rfl, Try.f10, [], Try.func10, by kernel_rfl, by kernel_rfl⟩
theorem tab : FnTab Try.prog sid (fun f => fnIds.lookup f) Tb := fnTab_of fnIds sid_ok (by kernel_rfl) tbl (by
  unfold tbl
  intro p hp
  simp only [List.mem_cons, List.not_mem_nil, or_false] at hp
  rcases hp with rfl | rfl | rfl | rfl | rfl | rfl | rfl | rfl | rfl | rfl | rfl | rfl | rfl | rfl | rfl | rfl | rfl | rfl | rfl | rfl | rfl | rfl | rfl | rfl | rfl | rfl | rfl | rfl
  · exact good_230
  · exact good_231
  · exact good_286
  · exact good_271
  · exact good_127
  · exact good_232
  · exact good_377
  · exact good_336
  · exact good_340
  · exact good_233
  · exact good_351
  · exact good_352
  · exact good_290
  · exact good_258
  · exact good_118
  · exact good_227
  · exact good_319
  · exact good_197
  · exact good_126
  · exact good_76
  · exact good_320
  · exact good_199
  · exact good_128
  · exact good_79
  · exact good_321
  · exact good_200
  · exact good_129
  · exact good_18)
set_option maxRecDepth 100000 in
theorem lifted (os : Os) (started : os.Started) (H : Type) (enc : TypeId × Value → H) :
    ReturnsInHanded {} Try.checked os 10 .any (Rows.fnExactIsAnswerSpec.pre6 enc Try.prog Try.f10 Rows.fnExactIsAnswerRow.domain false) (Rows.fnExactIsAnswerSpec.post enc Try.prog Try.f10 false true false false) := by
  refine returnsInHanded_of_change (C := Try.checked) own started (by kernel_rfl) Try.func10
    (ChangeSpec.witness6 (enc := enc) (C := Try.checked) false ⟨#[], #[.agg #[.int .i64 0, .slice none 0 0]], []⟩ 8 (by kernel_rfl) (by kernel_rfl) (by kernel_rfl) (by kernel_rfl)) ?_
  intro W base args ds gs before hval hW _ _
  exact law_contract (C := Try.checked) (modes := md) (m := 8) tab (g := 18) (fn := Try.f10) (ls := [(true, [.int .i64, .row [.int .i64, .row [.int .i64]]])]) (by kernel_rfl) ans18 (s := Rows.fnExactIsAnswerSpec) rfl (fun H ds h => by
      have h' : ds.length = 1 := h
      match ds, h' with
      | [_], _ => rfl) (tb := 4) (by kernel_rfl) (by kernel_rfl) laidOut (by
      intro t ht
      have key : ∀ t ∈ Try.f10.params.toList, Try.prog.readableRec t = true ∧ t < Try.prog.types.size := by
        rw [show Try.f10.params.toList = [63] by kernel_rfl]
        intro t ht
        simp only [List.mem_cons, List.not_mem_nil, or_false] at ht
        rcases ht with rfl <;> exact ⟨by kernel_rfl, of_decide_eq_true (by kernel_rfl)⟩
      exact key t ht) W base args ds gs before hval hW

theorem holds : Rows.FnExactIsAnswerSaid :=
  OpenClaim.holds_of_wide 10 Try.f10 rfl rfl rfl rfl rfl rfl rfl ⟨rfl, rfl, rfl, rfl, rfl⟩ rfl rfl rfl rfl rfl (by kernel_rfl) Try.func10 (by kernel_rfl)
    (of_decide_eq_true (by kernel_rfl)) (by unfold Func.isWrapper; rw [if_neg (by decide +kernel)]; exact ⟨rfl, rfl⟩)
    (fun os started H enc _ => lifted os started H enc)
#print axioms holds
end Go.Proofs.Ytplnbpiaacohnaa
