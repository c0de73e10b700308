/- FnExactEqualHellos: whatever the input, the law returns true and each argument reads behind the call as it read before; no condition. -/
import Derived.Test.YtplnbpiaacohnaaRows
import Derived.Test.YtplnbpiaacohnaaL19Fns
import Derived.ProofKit
set_option maxHeartbeats 4000000
set_option maxRecDepth 10000
set_option linter.unusedVariables false
set_option linter.unusedSimpArgs false
namespace Go.Proofs.Ytplnbpiaacohnaa
open Go.ChangeShapes Go.WideShapes Go.ChangeAt Go.RowKit Go.Vm
def fnIds : List (Nat × Nat) := [(2, 2), (3, 10), (4, 11), (5, 12), (6, 13), (7, 14), (8, 16), (9, 17), (10, 18), (11, 19), (12, 20), (13, 21), (14, 70), (15, 89), (16, 72), (17, 90), (18, 74), (19, 91), (20, 92), (21, 93), (22, 94), (23, 95), (24, 96), (25, 97), (26, 98), (27, 99), (28, 100), (29, 101), (30, 102), (31, 103), (32, 104), (33, 105), (34, 106), (35, 107), (36, 120), (37, 121), (38, 122), (39, 123), (40, 79), (41, 1124), (42, 1080), (43, 125), (44, 126), (45, 127), (46, 128), (47, 118), (48, 129), (49, 83), (50, 130), (51, 85), (52, 131), (53, 78), (54, 132), (55, 133), (56, 134), (57, 135), (58, 76), (59, 136), (60, 227), (61, 228), (62, 237), (63, 177), (64, 61), (65, 62), (66, 63), (67, 64), (68, 229), (69, 65), (70, 238), (71, 230), (72, 239), (73, 232), (74, 233), (75, 240), (76, 241), (77, 242), (78, 56), (79, 57), (80, 58), (81, 243), (82, 244), (83, 59), (84, 60), (85, 245), (86, 71), (87, 268), (88, 73), (89, 269), (90, 270), (91, 197), (92, 271), (93, 199), (94, 258), (95, 200), (96, 272), (97, 273), (98, 274), (99, 275), (100, 276), (101, 277), (102, 278), (103, 336), (104, 340), (105, 342), (106, 68), (107, 343), (108, 231), (109, 348), (110, 234), (111, 235), (112, 349), (113, 319), (114, 286), (115, 320), (116, 290), (117, 321), (118, 350), (119, 291), (120, 377), (121, 341), (122, 351), (123, 352)]
def sid (g : Nat) : Nat := ((fnIds.find? fun p => p.2 == g).map (·.1)).getD 0
theorem sid_ok : ∀ p ∈ fnIds, sid p.2 = p.1 := by decide +kernel
theorem own : ownKnob Try.prog.godebug = none := by kernel_rfl
theorem laidOut : laidOutB Try.prog = true := by kernel_rfl
theorem good_228 : Go.Vm.Good Try.prog sid (fun f => fnIds.lookup f) (228, ir228) := .inl ⟨rfl, Try.f61, [], Try.func61, by kernel_rfl, by kernel_rfl⟩
theorem good_272 : Go.Vm.Good Try.prog sid (fun f => fnIds.lookup f) (272, ir272) := .inl ⟨rfl, Try.f96, [], Try.func96, by kernel_rfl, by kernel_rfl⟩
theorem good_130 : Go.Vm.Good Try.prog sid (fun f => fnIds.lookup f) (130, ir130) := .inl ⟨rfl, Try.f50, [], Try.func50, by kernel_rfl, by kernel_rfl⟩
theorem good_229 : Go.Vm.Good Try.prog sid (fun f => fnIds.lookup f) (229, ir229) := .inl ⟨rfl, Try.f68, [], Try.func68, by kernel_rfl, by kernel_rfl⟩
theorem good_291 : Go.Vm.Good Try.prog sid (fun f => fnIds.lookup f) (291, ir291) := .inl ⟨rfl, Try.f119, [], Try.func119, by kernel_rfl, by kernel_rfl⟩
theorem good_350 : Go.Vm.Good Try.prog sid (fun f => fnIds.lookup f) (350, ir350) := .inl ⟨rfl, Try.f118, [], Try.func118, by kernel_rfl, by kernel_rfl⟩
theorem good_273 : Go.Vm.Good Try.prog sid (fun f => fnIds.lookup f) (273, ir273) := .inl ⟨rfl, Try.f97, [], Try.func97, by kernel_rfl, by kernel_rfl⟩
theorem good_131 : Go.Vm.Good Try.prog sid (fun f => fnIds.lookup f) (131, ir131) := .inl ⟨rfl, Try.f52, [], Try.func52, by kernel_rfl, by kernel_rfl⟩
theorem good_79 : Go.Vm.Good Try.prog sid (fun f => fnIds.lookup f) (79, ir79) := .inl ⟨rfl, Try.f40, [], Try.func40, by kernel_rfl, by kernel_rfl⟩
theorem good_321 : Go.Vm.Good Try.prog sid (fun f => fnIds.lookup f) (321, ir321) := .inl ⟨rfl, Try.f117, [], Try.func117, by kernel_rfl, by kernel_rfl⟩
theorem good_200 : Go.Vm.Good Try.prog sid (fun f => fnIds.lookup f) (200, ir200) := .inl ⟨rfl, Try.f95, [], Try.func95, by kernel_rfl, by kernel_rfl⟩
theorem good_78 : Go.Vm.Good Try.prog sid (fun f => fnIds.lookup f) (78, ir78) := .inl ⟨rfl, Try.f53, [], Try.func53, by kernel_rfl, by kernel_rfl⟩
theorem good_227 : Go.Vm.Good Try.prog sid (fun f => fnIds.lookup f) (227, ir227) := .inl ⟨rfl, Try.f60, [], Try.func60, by kernel_rfl, by kernel_rfl⟩
theorem good_319 : Go.Vm.Good Try.prog sid (fun f => fnIds.lookup f) (319, ir319) := .inl ⟨rfl, Try.f113, [], Try.func113, by kernel_rfl, by kernel_rfl⟩
theorem good_197 : Go.Vm.Good Try.prog sid (fun f => fnIds.lookup f) (197, ir197) := .inl ⟨rfl, Try.f91, [], Try.func91, by kernel_rfl, by kernel_rfl⟩
theorem good_83 : Go.Vm.Good Try.prog sid (fun f => fnIds.lookup f) (83, ir83) := .inl ⟨rfl, Try.f49, [], Try.func49, by kernel_rfl, by kernel_rfl⟩
theorem good_76 : Go.Vm.Good Try.prog sid (fun f => fnIds.lookup f) (76, ir76) := .inl ⟨rfl, Try.f58, [], Try.func58, by kernel_rfl, by kernel_rfl⟩
theorem good_320 : Go.Vm.Good Try.prog sid (fun f => fnIds.lookup f) (320, ir320) := .inl ⟨rfl, Try.f115, [], Try.func115, by kernel_rfl, by kernel_rfl⟩
theorem good_199 : Go.Vm.Good Try.prog sid (fun f => fnIds.lookup f) (199, ir199) := .inl ⟨rfl, Try.f93, [], Try.func93, by kernel_rfl, by kernel_rfl⟩
theorem good_85 : Go.Vm.Good Try.prog sid (fun f => fnIds.lookup f) (85, ir85) := .inl ⟨rfl, Try.f51, [], Try.func51, by kernel_rfl, by kernel_rfl⟩
theorem good_19 : Go.Vm.Good Try.prog sid (fun f => fnIds.lookup f) (19, ir19) := .inl ⟨rfl, Try.f11, [], Try.func11, by kernel_rfl, by kernel_rfl⟩
theorem tab : FnTab Try.prog sid (fun f => fnIds.lookup f) Tb := fnTab_of fnIds sid_ok (by kernel_rfl) tbl (by
  unfold tbl
  intro p hp
  simp only [List.mem_cons, List.not_mem_nil, or_false] at hp
  rcases hp with rfl | rfl | rfl | rfl | rfl | rfl | rfl | rfl | rfl | rfl | rfl | rfl | rfl | rfl | rfl | rfl | rfl | rfl | rfl | rfl | rfl
  · exact good_228
  · exact good_272
  · exact good_130
  · exact good_229
  · exact good_291
  · exact good_350
  · exact good_273
  · exact good_131
  · exact good_79
  · exact good_321
  · exact good_200
  · exact good_78
  · exact good_227
  · exact good_319
  · exact good_197
  · exact good_83
  · exact good_76
  · exact good_320
  · exact good_199
  · exact good_85
  · exact good_19)
set_option maxRecDepth 100000 in
theorem lifted (os : Os) (started : os.Started) (H : Type) (enc : TypeId × Value → H) :
    ReturnsInHanded {} Try.checked os 11 .any (Rows.fnExactEqualHellosSpec.pre6 enc Try.prog Try.f11 Rows.fnExactEqualHellosRow.domain false) (Rows.fnExactEqualHellosSpec.post enc Try.prog Try.f11 false true false false) := by
  refine returnsInHanded_of_change (C := Try.checked) own started (by kernel_rfl) Try.func11
    (ChangeSpec.witness6 (enc := enc) (C := Try.checked) false ⟨#[], #[.agg #[.slice none 0 0, .slice none 0 0], .agg #[.slice none 0 0, .slice none 0 0]], []⟩ 8 (by kernel_rfl) (by kernel_rfl) (by kernel_rfl) (by kernel_rfl)) ?_
  intro W base args ds gs before hval hW _ _
  exact law_contract (C := Try.checked) (modes := md) (m := 8) tab (g := 19) (fn := Try.f11) (ls := [(true, [.row [.int .i64], .row [.int .i64, .row [.int .i64]]]), (true, [.row [.int .i64], .row [.int .i64, .row [.int .i64]]])]) (by kernel_rfl) ans19 (s := Rows.fnExactEqualHellosSpec) rfl (fun H ds h => by
      have h' : ds.length = 2 := h
      match ds, h' with
      | [_, _], _ => rfl) (tb := 4) (by kernel_rfl) (by kernel_rfl) laidOut (by
      intro t ht
      have key : ∀ t ∈ Try.f11.params.toList, Try.prog.readableRec t = true ∧ t < Try.prog.types.size := by
        rw [show Try.f11.params.toList = [73, 73] by kernel_rfl]
        intro t ht
        simp only [List.mem_cons, List.not_mem_nil, or_false] at ht
        rcases ht with rfl | rfl <;> exact ⟨by kernel_rfl, of_decide_eq_true (by kernel_rfl)⟩
      exact key t ht) W base args ds gs before hval hW

theorem holds : Rows.FnExactEqualHellosSaid :=
  OpenClaim.holds_of_wide 11 Try.f11 rfl rfl rfl rfl rfl rfl rfl ⟨rfl, rfl, rfl, rfl, rfl⟩ rfl rfl rfl rfl rfl (by kernel_rfl) Try.func11 (by kernel_rfl)
    (of_decide_eq_true (by kernel_rfl)) (by unfold Func.isWrapper; rw [if_neg (by decide +kernel)]; exact ⟨rfl, rfl⟩)
    (fun os started H enc _ => lifted os started H enc)
#print axioms holds
end Go.Proofs.Ytplnbpiaacohnaa
