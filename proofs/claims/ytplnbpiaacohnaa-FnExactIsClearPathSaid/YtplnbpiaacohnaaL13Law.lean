/- FnExactIsClearPath: whatever the input, the law returns true and each argument reads behind the call as it read before; no condition. -/
import Derived.Test.YtplnbpiaacohnaaRows
import Derived.Test.YtplnbpiaacohnaaL13Fns
import Derived.ProofKit
set_option maxHeartbeats 4000000
set_option linter.unusedVariables false
set_option linter.unusedSimpArgs false
namespace Go.Proofs.Ytplnbpiaacohnaa
open Go.ChangeShapes Go.WideShapes Go.ChangeAt Go.RowKit Go.Vm
def fnIds : List (Nat × Nat) := [(2, 2), (3, 10), (4, 11), (5, 12), (6, 13), (7, 14), (8, 16), (9, 17), (10, 18), (11, 19), (12, 20), (13, 21), (14, 70), (15, 89), (16, 72), (17, 90), (18, 74), (19, 91), (20, 92), (21, 93), (22, 94), (23, 95), (24, 96), (25, 97), (26, 98), (27, 99), (28, 100), (29, 101), (30, 102), (31, 103), (32, 104), (33, 105), (34, 106), (35, 107), (36, 120), (37, 121), (38, 122), (39, 123), (40, 79), (41, 1124), (42, 1080), (43, 125), (44, 126), (45, 127), (46, 128), (47, 118), (48, 129), (49, 83), (50, 130), (51, 85), (52, 131), (53, 78), (54, 132), (55, 133), (56, 134), (57, 135), (58, 76), (59, 136), (60, 227), (61, 228), (62, 237), (63, 177), (64, 61), (65, 62), (66, 63), (67, 64), (68, 229), (69, 65), (70, 238), (71, 230), (72, 239), (73, 232), (74, 233), (75, 240), (76, 241), (77, 242), (78, 56), (79, 57), (80, 58), (81, 243), (82, 244), (83, 59), (84, 60), (85, 245), (86, 71), (87, 268), (88, 73), (89, 269), (90, 270), (91, 197), (92, 271), (93, 199), (94, 258), (95, 200), (96, 272), (97, 273), (98, 274), (99, 275), (100, 276), (101, 277), (102, 278), (103, 336), (104, 340), (105, 342), (106, 68), (107, 343), (108, 231), (109, 348), (110, 234), (111, 235), (112, 349), (113, 319), (114, 286), (115, 320), (116, 290), (117, 321), (118, 350), (119, 291), (120, 377), (121, 341), (122, 351), (123, 352)]
def sid (g : Nat) : Nat := ((fnIds.find? fun p => p.2 == g).map (·.1)).getD 0
theorem sid_ok : ∀ p ∈ fnIds, sid p.2 = p.1 := by decide +kernel
theorem own : ownKnob Try.prog.godebug = none := by kernel_rfl
theorem laidOut : laidOutB Try.prog = true := by kernel_rfl
theorem good_227 : Go.Vm.Good Try.prog sid (fun f => fnIds.lookup f) (227, ir227) := .inl ⟨rfl, Try.f60, [], Try.func60, by kernel_rfl, by kernel_rfl⟩
theorem good_56 : Go.Vm.Good Try.prog sid (fun f => fnIds.lookup f) (56, ir56) := .inl ⟨rfl, Try.f78, [], Try.func78, by kernel_rfl, by kernel_rfl⟩
theorem good_101 : Go.Vm.Good Try.prog sid (fun f => fnIds.lookup f) (101, ir101) := .inl ⟨rfl, Try.f29, [], Try.func29, by kernel_rfl, by kernel_rfl⟩
theorem good_230 : Go.Vm.Good Try.prog sid (fun f => fnIds.lookup f) (230, ir230) := .inl ⟨rfl, Try.f71, [], Try.func71, by kernel_rfl, by kernel_rfl⟩
theorem good_231 : Go.Vm.Good Try.prog sid (fun f => fnIds.lookup f) (231, ir231) := .inl ⟨rfl, Try.f108, [], Try.func108, by kernel_rfl, by kernel_rfl⟩
theorem good_68 : Go.Vm.Good Try.prog sid (fun f => fnIds.lookup f) (68, ir68) := .inl ⟨rfl, Try.f106, [], Try.func106, by kernel_rfl, by kernel_rfl⟩
theorem good_57 : Go.Vm.Good Try.prog sid (fun f => fnIds.lookup f) (57, ir57) := .inl ⟨rfl, Try.f79, [], Try.func79, by kernel_rfl, by kernel_rfl⟩
theorem good_102 : Go.Vm.Good Try.prog sid (fun f => fnIds.lookup f) (102, ir102) := .inl ⟨rfl, Try.f30, [], Try.func30, by kernel_rfl, by kernel_rfl⟩
theorem good_76 : Go.Vm.Good Try.prog sid (fun f => fnIds.lookup f) (76, ir76) := .inl ⟨rfl, Try.f58, [], Try.func58, by kernel_rfl, by kernel_rfl⟩
theorem good_58 : Go.Vm.Good Try.prog sid (fun f => fnIds.lookup f) (58, ir58) := .inl ⟨rfl, Try.f80, [], Try.func80, by kernel_rfl, by kernel_rfl⟩
theorem good_103 : Go.Vm.Good Try.prog sid (fun f => fnIds.lookup f) (103, ir103) := .inl ⟨rfl, Try.f31, [], Try.func31, by kernel_rfl, by kernel_rfl⟩
theorem good_343 : Go.Vm.Good Try.prog sid (fun f => fnIds.lookup f) (343, ir343) := .inl ⟨rfl, Try.f107, [], Try.func107, by kernel_rfl, by kernel_rfl⟩
theorem good_243 : Go.Vm.Good Try.prog sid (fun f => fnIds.lookup f) (243, ir243) := .inl ⟨rfl, Try.f81, [], Try.func81, by kernel_rfl, by kernel_rfl⟩
theorem good_59 : Go.Vm.Good Try.prog sid (fun f => fnIds.lookup f) (59, ir59) := .inl ⟨rfl, Try.f83, [], Try.func83, by kernel_rfl, by kernel_rfl⟩
theorem good_244 : Go.Vm.Good Try.prog sid (fun f => fnIds.lookup f) (244, ir244) := .inl ⟨rfl, Try.f82, [], Try.func82, by kernel_rfl, by kernel_rfl⟩
theorem good_104 : Go.Vm.Good Try.prog sid (fun f => fnIds.lookup f) (104, ir104) := .inl ⟨rfl, Try.f32, [], Try.func32, by kernel_rfl, by kernel_rfl⟩
theorem good_79 : Go.Vm.Good Try.prog sid (fun f => fnIds.lookup f) (79, ir79) := .inl ⟨rfl, Try.f40, [], Try.func40, by kernel_rfl, by kernel_rfl⟩
theorem good_60 : Go.Vm.Good Try.prog sid (fun f => fnIds.lookup f) (60, ir60) := .inl ⟨rfl, Try.f84, [], Try.func84, by kernel_rfl, by kernel_rfl⟩
theorem good_105 : Go.Vm.Good Try.prog sid (fun f => fnIds.lookup f) (105, ir105) := .inl ⟨rfl, Try.f33, [], Try.func33, by kernel_rfl, by kernel_rfl⟩
theorem good_13 : Go.Vm.Good Try.prog sid (fun f => fnIds.lookup f) (13, ir13) := .inl ⟨rfl, Try.f6, [], Try.func6, by kernel_rfl, by kernel_rfl⟩
theorem tab : FnTab Try.prog sid (fun f => fnIds.lookup f) Tb := fnTab_of fnIds sid_ok (by kernel_rfl) tbl (by
  unfold tbl
  intro p hp
  simp only [List.mem_cons, List.not_mem_nil, or_false] at hp
  rcases hp with rfl | rfl | rfl | rfl | rfl | rfl | rfl | rfl | rfl | rfl | rfl | rfl | rfl | rfl | rfl | rfl | rfl | rfl | rfl | rfl
  · exact good_227
  · exact good_56
  · exact good_101
  · exact good_230
  · exact good_231
  · exact good_68
  · exact good_57
  · exact good_102
  · exact good_76
  · exact good_58
  · exact good_103
  · exact good_343
  · exact good_243
  · exact good_59
  · exact good_244
  · exact good_104
  · exact good_79
  · exact good_60
  · exact good_105
  · exact good_13)
set_option maxRecDepth 100000 in
theorem lifted (os : Os) (started : os.Started) (H : Type) (enc : TypeId × Value → H) :
    ReturnsInHanded {} Try.checked os 6 .any (Rows.fnExactIsClearPathSpec.pre6 enc Try.prog Try.f6 Rows.fnExactIsClearPathRow.domain false) (Rows.fnExactIsClearPathSpec.post enc Try.prog Try.f6 false true false false) := by
  refine returnsInHanded_of_change (C := Try.checked) own started (by kernel_rfl) Try.func6
    (ChangeSpec.witness6 (enc := enc) (C := Try.checked) false ⟨#[], #[.slice none 0 0], []⟩ 8 (by kernel_rfl) (by kernel_rfl) (by kernel_rfl) (by kernel_rfl)) ?_
  intro W base args ds gs before hval hW _ _
  exact law_contract (C := Try.checked) (modes := md) (m := 8) tab (g := 13) (fn := Try.f6) (ls := [(false, [.row [.int .i64, .row [.int .i64], .row [.int .i64], .bool]])]) (by kernel_rfl) ans13 (s := Rows.fnExactIsClearPathSpec) rfl (fun H ds h => by
      have h' : ds.length = 1 := h
      match ds, h' with
      | [_], _ => rfl) (tb := 4) (by kernel_rfl) (by kernel_rfl) laidOut (by
      intro t ht
      have key : ∀ t ∈ Try.f6.params.toList, Try.prog.readableRec t = true ∧ t < Try.prog.types.size := by
        rw [show Try.f6.params.toList = [45] by kernel_rfl]
        intro t ht
        simp only [List.mem_cons, List.not_mem_nil, or_false] at ht
        rcases ht with rfl <;> exact ⟨by kernel_rfl, of_decide_eq_true (by kernel_rfl)⟩
      exact key t ht) W base args ds gs before hval hW

theorem holds : Rows.FnExactIsClearPathSaid :=
  OpenClaim.holds_of_wide 6 Try.f6 rfl rfl rfl rfl rfl rfl rfl ⟨rfl, rfl, rfl, rfl, rfl⟩ rfl rfl rfl rfl rfl (by kernel_rfl) Try.func6 (by kernel_rfl)
    (of_decide_eq_true (by kernel_rfl)) (by unfold Func.isWrapper; rw [if_neg (by decide +kernel)]; exact ⟨rfl, rfl⟩)
    (fun os started H enc _ => lifted os started H enc)
#print axioms holds
end Go.Proofs.Ytplnbpiaacohnaa
