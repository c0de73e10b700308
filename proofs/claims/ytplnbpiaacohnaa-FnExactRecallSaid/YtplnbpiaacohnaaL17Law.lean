/- FnExactRecall: whatever the input, the law returns true and each argument reads behind the call as it read before; no condition. -/
import Derived.Test.YtplnbpiaacohnaaRows
import Derived.Test.YtplnbpiaacohnaaL17Fns
import Derived.ProofKit
set_option maxHeartbeats 4000000
set_option maxRecDepth 10000
set_option linter.unusedVariables false
set_option linter.unusedSimpArgs false
namespace Go.Proofs.Ytplnbpiaacohnaa
open Go.ChangeShapes Go.WideShapes Go.ChangeAt Go.RowKit Go.Vm
def fnIds : List (Nat × Nat) := [(2, 2), (3, 10), (4, 11), (5, 12), (6, 13), (7, 14), (8, 16), (9, 17), (10, 18), (11, 19), (12, 20), (13, 21), (14, 70), (15, 89), (16, 72), (17, 90), (18, 74), (19, 91), (20, 92), (21, 93), (22, 94), (23, 95), (24, 96), (25, 97), (26, 98), (27, 99), (28, 100), (29, 101), (30, 102), (31, 103), (32, 104), (33, 105), (34, 106), (35, 107), (36, 120), (37, 121), (38, 122), (39, 123), (40, 79), (41, 1124), (42, 1080), (43, 125), (44, 126), (45, 127), (46, 128), (47, 118), (48, 129), (49, 83), (50, 130), (51, 85), (52, 131), (53, 78), (54, 132), (55, 133), (56, 134), (57, 135), (58, 76), (59, 136), (60, 227), (61, 228), (62, 237), (63, 177), (64, 61), (65, 62), (66, 63), (67, 64), (68, 229), (69, 65), (70, 238), (71, 230), (72, 239), (73, 232), (74, 233), (75, 240), (76, 241), (77, 242), (78, 56), (79, 57), (80, 58), (81, 243), (82, 244), (83, 59), (84, 60), (85, 245), (86, 71), (87, 268), (88, 73), (89, 269), (90, 270), (91, 197), (92, 271), (93, 199), (94, 258), (95, 200), (96, 272), (97, 273), (98, 274), (99, 275), (100, 276), (101, 277), (102, 278), (103, 336), (104, 340), (105, 342), (106, 68), (107, 343), (108, 231), (109, 348), (110, 234), (111, 235), (112, 349), (113, 319), (114, 286), (115, 320), (116, 290), (117, 321), (118, 350), (119, 291), (120, 377), (121, 341), (122, 351), (123, 352)]
def sid (g : Nat) : Nat := ((fnIds.find? fun p => p.2 == g).map (·.1)).getD 0
theorem sid_ok : ∀ p ∈ fnIds, sid p.2 = p.1 := by decide +kernel
theorem own : ownKnob Try.prog.godebug = none := by kernel_rfl
theorem laidOut : laidOutB Try.prog = true := by kernel_rfl
theorem good_79 : Go.Vm.Good Try.prog sid (fun f => fnIds.lookup f) (79, ir79) := .inl ⟨rfl, Try.f40, [], Try.func40, by kernel_rfl, by kernel_rfl⟩
theorem good_242 : Go.Vm.Good Try.prog sid (fun f => fnIds.lookup f) (242, ir242) := .inl ⟨rfl, Try.f77, [], Try.func77, by kernel_rfl, by kernel_rfl⟩
theorem good_100 : Go.Vm.Good Try.prog sid (fun f => fnIds.lookup f) (100, ir100) := .inl ⟨rfl, Try.f28, [], Try.func28, by kernel_rfl, by kernel_rfl⟩
theorem good_1080 : Go.Vm.Good Try.prog sid (fun f => fnIds.lookup f) (1080, ir1080) := .inl ⟨rfl, Try.f42, [.mrow, .val], Try.func42, by kernel_rfl, by kernel_rfl⟩
theorem good_1124 : Go.Vm.Good Try.prog sid (fun f => fnIds.lookup f) (1124, ir1124) := .inl ⟨rfl, Try.f41, [.mrow, .val], Try.func41, by kernel_rfl, by kernel_rfl⟩
theorem good_230 : Go.Vm.Good Try.prog sid (fun f => fnIds.lookup f) (230, ir230) := .inl ⟨rfl, Try.f71, [], Try.func71, by kernel_rfl, by kernel_rfl⟩
theorem good_270 : Go.Vm.Good Try.prog sid (fun f => fnIds.lookup f) (270, ir270) := .inl ⟨rfl, Try.f90, [], Try.func90, by kernel_rfl, by kernel_rfl⟩
theorem good_274 : Go.Vm.Good Try.prog sid (fun f => fnIds.lookup f) (274, ir274) := .inl ⟨rfl, Try.f98, [], Try.func98, by kernel_rfl, by kernel_rfl⟩
theorem good_132 : Go.Vm.Good Try.prog sid (fun f => fnIds.lookup f) (132, ir132) := .inl ⟨rfl, Try.f54, [], Try.func54, by kernel_rfl, by kernel_rfl⟩
theorem good_122 : Go.Vm.Good Try.prog sid (fun f => fnIds.lookup f) (122, ir122) := .inl ⟨rfl, Try.f38, [], Try.func38, by kernel_rfl, by kernel_rfl⟩
theorem good_232 : Go.Vm.Good Try.prog sid (fun f => fnIds.lookup f) (232, ir232) := .inl ⟨rfl, Try.f73, [], Try.func73, by kernel_rfl, by kernel_rfl⟩
theorem good_275 : Go.Vm.Good Try.prog sid (fun f => fnIds.lookup f) (275, ir275) := .inl ⟨rfl, Try.f99, [], Try.func99, by kernel_rfl, by kernel_rfl⟩
theorem good_276 : Go.Vm.Good Try.prog sid (fun f => fnIds.lookup f) (276, ir276) := .inl ⟨rfl, Try.f100, [], Try.func100, by kernel_rfl, by kernel_rfl⟩
theorem good_133 : Go.Vm.Good Try.prog sid (fun f => fnIds.lookup f) (133, ir133) := .inl ⟨rfl, Try.f55, [], Try.func55, by kernel_rfl, by kernel_rfl⟩
theorem good_123 : Go.Vm.Good Try.prog sid (fun f => fnIds.lookup f) (123, ir123) := .inl ⟨rfl, Try.f39, [], Try.func39, by kernel_rfl, by kernel_rfl⟩
theorem good_125 : Go.Vm.Good Try.prog sid (fun f => fnIds.lookup f) (125, ir125) := .inl ⟨rfl, Try.f43, [], Try.func43, by kernel_rfl, by kernel_rfl⟩
theorem good_227 : Go.Vm.Good Try.prog sid (fun f => fnIds.lookup f) (227, ir227) := .inl ⟨rfl, Try.f60, [], Try.func60, by kernel_rfl, by kernel_rfl⟩
theorem good_238 : Go.Vm.Good Try.prog sid (fun f => fnIds.lookup f) (238, ir238) := .inl ⟨rfl, Try.f70, [], Try.func70, by kernel_rfl, by kernel_rfl⟩
theorem good_96 : Go.Vm.Good Try.prog sid (fun f => fnIds.lookup f) (96, ir96) := .inl ⟨rfl, Try.f24, [], Try.func24, by kernel_rfl, by kernel_rfl⟩
theorem good_76 : Go.Vm.Good Try.prog sid (fun f => fnIds.lookup f) (76, ir76) := .inl ⟨rfl, Try.f58, [], Try.func58, by kernel_rfl, by kernel_rfl⟩
theorem good_239 : Go.Vm.Good Try.prog sid (fun f => fnIds.lookup f) (239, ir239) := .inl ⟨rfl, Try.f72, [], Try.func72, by kernel_rfl, by kernel_rfl⟩
theorem good_98 : Go.Vm.Good Try.prog sid (fun f => fnIds.lookup f) (98, ir98) := .inl ⟨rfl, Try.f26, [], Try.func26, by kernel_rfl, by kernel_rfl⟩
theorem good_17 : Go.Vm.Good Try.prog sid (fun f => fnIds.lookup f) (17, ir17) := .inl ⟨rfl, Try.f9, [], Try.func9, by kernel_rfl, by kernel_rfl⟩
theorem tab : FnTab Try.prog sid (fun f => fnIds.lookup f) Tb := fnTab_of fnIds sid_ok (by kernel_rfl) tbl (by
  unfold tbl
  intro p hp
  simp only [List.mem_cons, List.not_mem_nil, or_false] at hp
  rcases hp with rfl | rfl | rfl | rfl | rfl | rfl | rfl | rfl | rfl | rfl | rfl | rfl | rfl | rfl | rfl | rfl | rfl | rfl | rfl | rfl | rfl | rfl | rfl
  · exact good_79
  · exact good_242
  · exact good_100
  · exact good_1080
  · exact good_1124
  · exact good_230
  · exact good_270
  · exact good_274
  · exact good_132
  · exact good_122
  · exact good_232
  · exact good_275
  · exact good_276
  · exact good_133
  · exact good_123
  · exact good_125
  · exact good_227
  · exact good_238
  · exact good_96
  · exact good_76
  · exact good_239
  · exact good_98
  · exact good_17)
set_option maxRecDepth 100000 in
theorem lifted (os : Os) (started : os.Started) (H : Type) (enc : TypeId × Value → H) :
    ReturnsInHanded {} Try.checked os 9 .any (Rows.fnExactRecallSpec.pre6 enc Try.prog Try.f9 Rows.fnExactRecallRow.domain false) (Rows.fnExactRecallSpec.post enc Try.prog Try.f9 false true false false) := by
  refine returnsInHanded_of_change (C := Try.checked) own started (by kernel_rfl) Try.func9
    (ChangeSpec.witness6 (enc := enc) (C := Try.checked) false ⟨#[], #[.slice none 0 0, .int .i64 0, .int .i64 0], []⟩ 8 (by kernel_rfl) (by kernel_rfl) (by kernel_rfl) (by kernel_rfl)) ?_
  intro W base args ds gs before hval hW _ _
  exact law_contract (C := Try.checked) (modes := md) (m := 8) tab (g := 17) (fn := Try.f9) (ls := [(false, [.row [.int .i64, .row [.int .i64], .int .i64]]), (false, [.int .i64]), (false, [.int .i64])]) (by kernel_rfl) ans17 (s := Rows.fnExactRecallSpec) rfl (fun H ds h => by
      have h' : ds.length = 3 := h
      match ds, h' with
      | [_, _, _], _ => rfl) (tb := 4) (by kernel_rfl) (by kernel_rfl) laidOut (by
      intro t ht
      have key : ∀ t ∈ Try.f9.params.toList, Try.prog.readableRec t = true ∧ t < Try.prog.types.size := by
        rw [show Try.f9.params.toList = [38, 3, 3] by kernel_rfl]
        intro t ht
        simp only [List.mem_cons, List.not_mem_nil, or_false] at ht
        rcases ht with rfl | rfl | rfl <;> exact ⟨by kernel_rfl, of_decide_eq_true (by kernel_rfl)⟩
      exact key t ht) W base args ds gs before hval hW

theorem holds : Rows.FnExactRecallSaid :=
  OpenClaim.holds_of_wide 9 Try.f9 rfl rfl rfl rfl rfl rfl rfl ⟨rfl, rfl, rfl, rfl, rfl⟩ rfl rfl rfl rfl rfl (by kernel_rfl) Try.func9 (by kernel_rfl)
    (of_decide_eq_true (by kernel_rfl)) (by unfold Func.isWrapper; rw [if_neg (by decide +kernel)]; exact ⟨rfl, rfl⟩)
    (fun os started H enc _ => lifted os started H enc)
#print axioms holds
end Go.Proofs.Ytplnbpiaacohnaa
