/- FnExactEqualDialed: whatever the input, the law returns true and each argument reads behind the call as it read before; no condition. -/
import Derived.Test.YtplnbpiaacohnaaRows
import Derived.Test.YtplnbpiaacohnaaL11Fns
import Derived.ProofKit
set_option maxHeartbeats 4000000
set_option linter.unusedVariables false
set_option linter.unusedSimpArgs false
namespace Go.Proofs.Ytplnbpiaacohnaa
open Go.ChangeShapes Go.WideShapes Go.ChangeAt Go.RowKit Go.Vm
def fnIds : List (Nat × Nat) := [(2, 2), (3, 10), (4, 11), (5, 12), (6, 13), (7, 14), (8, 16), (9, 17), (10, 18), (11, 19), (12, 20), (13, 21), (14, 70), (15, 89), (16, 72), (17, 90), (18, 74), (19, 91), (20, 92), (21, 93), (22, 94), (23, 95), (24, 96), (25, 97), (26, 98), (27, 99), (28, 100), (29, 101), (30, 102), (31, 103), (32, 104), (33, 105), (34, 106), (35, 107), (36, 120), (37, 121), (38, 122), (39, 123), (40, 79), (41, 1124), (42, 1080), (43, 125), (44, 126), (45, 127), (46, 128), (47, 118), (48, 129), (49, 83), (50, 130), (51, 85), (52, 131), (53, 78), (54, 132), (55, 133), (56, 134), (57, 135), (58, 76), (59, 136), (60, 227), (61, 228), (62, 237), (63, 177), (64, 61), (65, 62), (66, 63), (67, 64), (68, 229), (69, 65), (70, 238), (71, 230), (72, 239), (73, 232), (74, 233), (75, 240), (76, 241), (77, 242), (78, 56), (79, 57), (80, 58), (81, 243), (82, 244), (83, 59), (84, 60), (85, 245), (86, 71), (87, 268), (88, 73), (89, 269), (90, 270), (91, 197), (92, 271), (93, 199), (94, 258), (95, 200), (96, 272), (97, 273), (98, 274), (99, 275), (100, 276), (101, 277), (102, 278), (103, 336), (104, 340), (105, 342), (106, 68), (107, 343), (108, 231), (109, 348), (110, 234), (111, 235), (112, 349), (113, 319), (114, 286), (115, 320), (116, 290), (117, 321), (118, 350), (119, 291), (120, 377), (121, 341), (122, 351), (123, 352)]
def sid (g : Nat) : Nat := ((fnIds.find? fun p => p.2 == g).map (·.1)).getD 0
theorem sid_ok : ∀ p ∈ fnIds, sid p.2 = p.1 := by decide +kernel
theorem own : ownKnob Try.prog.godebug = none := by kernel_rfl
theorem laidOut : laidOutB Try.prog = true := by kernel_rfl
theorem good_227 : Go.Vm.Good Try.prog sid (fun f => fnIds.lookup f) (227, ir227) := .inl ⟨rfl, Try.f60, [], Try.func60, by kernel_rfl, by kernel_rfl⟩
theorem good_61 : Go.Vm.Good Try.prog sid (fun f => fnIds.lookup f) (61, ir61) := .inl ⟨rfl, Try.f64, [], Try.func64, by kernel_rfl, by kernel_rfl⟩
theorem good_91 : Go.Vm.Good Try.prog sid (fun f => fnIds.lookup f) (91, ir91) := .inl ⟨rfl, Try.f19, [], Try.func19, by kernel_rfl, by kernel_rfl⟩
theorem good_228 : Go.Vm.Good Try.prog sid (fun f => fnIds.lookup f) (228, ir228) := .inl ⟨rfl, Try.f61, [], Try.func61, by kernel_rfl, by kernel_rfl⟩
theorem good_62 : Go.Vm.Good Try.prog sid (fun f => fnIds.lookup f) (62, ir62) := .inl ⟨rfl, Try.f65, [], Try.func65, by kernel_rfl, by kernel_rfl⟩
theorem good_92 : Go.Vm.Good Try.prog sid (fun f => fnIds.lookup f) (92, ir92) := .inl ⟨rfl, Try.f20, [], Try.func20, by kernel_rfl, by kernel_rfl⟩
theorem good_76 : Go.Vm.Good Try.prog sid (fun f => fnIds.lookup f) (76, ir76) := .inl ⟨rfl, Try.f58, [], Try.func58, by kernel_rfl, by kernel_rfl⟩
theorem good_63 : Go.Vm.Good Try.prog sid (fun f => fnIds.lookup f) (63, ir63) := .inl ⟨rfl, Try.f66, [], Try.func66, by kernel_rfl, by kernel_rfl⟩
theorem good_93 : Go.Vm.Good Try.prog sid (fun f => fnIds.lookup f) (93, ir93) := .inl ⟨rfl, Try.f21, [], Try.func21, by kernel_rfl, by kernel_rfl⟩
theorem good_229 : Go.Vm.Good Try.prog sid (fun f => fnIds.lookup f) (229, ir229) := .inl ⟨rfl, Try.f68, [], Try.func68, by kernel_rfl, by kernel_rfl⟩
theorem good_64 : Go.Vm.Good Try.prog sid (fun f => fnIds.lookup f) (64, ir64) := .inl ⟨rfl, Try.f67, [], Try.func67, by kernel_rfl, by kernel_rfl⟩
theorem good_94 : Go.Vm.Good Try.prog sid (fun f => fnIds.lookup f) (94, ir94) := .inl ⟨rfl, Try.f22, [], Try.func22, by kernel_rfl, by kernel_rfl⟩
theorem good_79 : Go.Vm.Good Try.prog sid (fun f => fnIds.lookup f) (79, ir79) := .inl ⟨rfl, Try.f40, [], Try.func40, by kernel_rfl, by kernel_rfl⟩
theorem good_65 : Go.Vm.Good Try.prog sid (fun f => fnIds.lookup f) (65, ir65) := .inl ⟨rfl, Try.f69, [], Try.func69, by kernel_rfl, by kernel_rfl⟩
theorem good_95 : Go.Vm.Good Try.prog sid (fun f => fnIds.lookup f) (95, ir95) := .inl ⟨rfl, Try.f23, [], Try.func23, by kernel_rfl, by kernel_rfl⟩
theorem good_11 : Go.Vm.Good Try.prog sid (fun f => fnIds.lookup f) (11, ir11) := .inl ⟨rfl, Try.f4, [], Try.func4, by kernel_rfl, by kernel_rfl⟩
theorem tab : FnTab Try.prog sid (fun f => fnIds.lookup f) Tb := fnTab_of fnIds sid_ok (by kernel_rfl) tbl (by
  unfold tbl
  intro p hp
  simp only [List.mem_cons, List.not_mem_nil, or_false] at hp
  rcases hp with rfl | rfl | rfl | rfl | rfl | rfl | rfl | rfl | rfl | rfl | rfl | rfl | rfl | rfl | rfl | rfl
  · exact good_227
  · exact good_61
  · exact good_91
  · exact good_228
  · exact good_62
  · exact good_92
  · exact good_76
  · exact good_63
  · exact good_93
  · exact good_229
  · exact good_64
  · exact good_94
  · exact good_79
  · exact good_65
  · exact good_95
  · exact good_11)
set_option maxRecDepth 100000 in
theorem lifted (os : Os) (started : os.Started) (H : Type) (enc : TypeId × Value → H) :
    ReturnsInHanded {} Try.checked os 4 .any (Rows.fnExactEqualDialedSpec.pre6 enc Try.prog Try.f4 Rows.fnExactEqualDialedRow.domain false) (Rows.fnExactEqualDialedSpec.post enc Try.prog Try.f4 false true false false) := by
  refine returnsInHanded_of_change (C := Try.checked) own started (by kernel_rfl) Try.func4
    (ChangeSpec.witness6 (enc := enc) (C := Try.checked) false ⟨#[], #[.agg #[.bool false, .int .i64 0, .slice none 0 0, .int .i64 0, .slice none 0 0], .agg #[.bool false, .int .i64 0, .slice none 0 0, .int .i64 0, .slice none 0 0]], []⟩ 8 (by kernel_rfl) (by kernel_rfl) (by kernel_rfl) (by kernel_rfl)) ?_
  intro W base args ds gs before hval hW _ _
  exact law_contract (C := Try.checked) (modes := md) (m := 8) tab (g := 11) (fn := Try.f4) (ls := [(true, [.bool, .int .i64, .row [.int .i64], .int .i64, .row [.int .i64]]), (true, [.bool, .int .i64, .row [.int .i64], .int .i64, .row [.int .i64]])]) (by kernel_rfl) ans11 (s := Rows.fnExactEqualDialedSpec) rfl (fun H ds h => by
      have h' : ds.length = 2 := h
      match ds, h' with
      | [_, _], _ => rfl) (tb := 4) (by kernel_rfl) (by kernel_rfl) laidOut (by
      intro t ht
      have key : ∀ t ∈ Try.f4.params.toList, Try.prog.readableRec t = true ∧ t < Try.prog.types.size := by
        rw [show Try.f4.params.toList = [30, 30] by kernel_rfl]
        intro t ht
        simp only [List.mem_cons, List.not_mem_nil, or_false] at ht
        rcases ht with rfl | rfl <;> exact ⟨by kernel_rfl, of_decide_eq_true (by kernel_rfl)⟩
      exact key t ht) W base args ds gs before hval hW

theorem holds : Rows.FnExactEqualDialedSaid :=
  OpenClaim.holds_of_wide 4 Try.f4 rfl rfl rfl rfl rfl rfl rfl ⟨rfl, rfl, rfl, rfl, rfl⟩ rfl rfl rfl rfl rfl (by kernel_rfl) Try.func4 (by kernel_rfl)
    (of_decide_eq_true (by kernel_rfl)) (by unfold Func.isWrapper; rw [if_neg (by decide +kernel)]; exact ⟨rfl, rfl⟩)
    (fun os started H enc _ => lifted os started H enc)
#print axioms holds
end Go.Proofs.Ytplnbpiaacohnaa
