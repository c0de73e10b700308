/- FnExactTranscriptHash: whatever the input, the law returns true and each argument reads behind the call as it read before; no condition. -/
import Derived.Test.YtplnbpiaacohnaaRows
import Derived.Test.YtplnbpiaacohnaaL16Fns
import Derived.ProofKit
set_option maxHeartbeats 4000000
set_option maxRecDepth 10000
set_option linter.unusedVariables false
set_option linter.unusedSimpArgs false
namespace Go.Proofs.Ytplnbpiaacohnaa
open Go.ChangeShapes Go.WideShapes Go.ChangeAt Go.RowKit Go.Vm
def fnIds : List (Nat × Nat) := [(2, 2), (3, 10), (4, 11), (5, 12), (6, 13), (7, 14), (8, 16), (9, 17), (10, 18), (11, 19), (12, 20), (13, 21), (14, 70), (15, 89), (16, 72), (17, 90), (18, 74), (19, 91), (20, 92), (21, 93), (22, 94), (23, 95), (24, 96), (25, 97), (26, 98), (27, 99), (28, 100), (29, 101), (30, 102), (31, 103), (32, 104), (33, 105), (34, 106), (35, 107), (36, 120), (37, 121), (38, 122), (39, 123), (40, 79), (41, 1124), (42, 1080), (43, 125), (44, 126), (45, 127), (46, 128), (47, 118), (48, 129), (49, 83), (50, 130), (51, 85), (52, 131), (53, 78), (54, 132), (55, 133), (56, 134), (57, 135), (58, 76), (59, 136), (60, 227), (61, 228), (62, 237), (63, 177), (64, 61), (65, 62), (66, 63), (67, 64), (68, 229), (69, 65), (70, 238), (71, 230), (72, 239), (73, 232), (74, 233), (75, 240), (76, 241), (77, 242), (78, 56), (79, 57), (80, 58), (81, 243), (82, 244), (83, 59), (84, 60), (85, 245), (86, 71), (87, 268), (88, 73), (89, 269), (90, 270), (91, 197), (92, 271), (93, 199), (94, 258), (95, 200), (96, 272), (97, 273), (98, 274), (99, 275), (100, 276), (101, 277), (102, 278), (103, 336), (104, 340), (105, 342), (106, 68), (107, 343), (108, 231), (109, 348), (110, 234), (111, 235), (112, 349), (113, 319), (114, 286), (115, 320), (116, 290), (117, 321), (118, 350), (119, 291), (120, 377), (121, 341), (122, 351), (123, 352)]
def sid (g : Nat) : Nat := ((fnIds.find? fun p => p.2 == g).map (·.1)).getD 0
theorem sid_ok : ∀ p ∈ fnIds, sid p.2 = p.1 := by decide +kernel
theorem own : ownKnob Try.prog.godebug = none := by kernel_rfl
theorem laidOut : laidOutB Try.prog = true := by kernel_rfl
theorem good_230 : Go.Vm.Good Try.prog sid (fun f => fnIds.lookup f) (230, ir230) := .inl ⟨rfl, Try.f71, [], Try.func71, by kernel_rfl, by kernel_rfl⟩
theorem good_348 : Go.Vm.Good Try.prog sid (fun f => fnIds.lookup f) (348, ir348) := .inl ⟨rfl, Try.f109, [], Try.func109, by kernel_rfl, by kernel_rfl⟩
theorem good_268 : Go.Vm.Good Try.prog sid (fun f => fnIds.lookup f) (268, ir268) := .inl ⟨rfl, Try.f87, [], Try.func87, by kernel_rfl, by kernel_rfl⟩
theorem good_231 : Go.Vm.Good Try.prog sid (fun f => fnIds.lookup f) (231, ir231) := .inl ⟨rfl, Try.f108, [], Try.func108, by kernel_rfl, by kernel_rfl⟩
theorem good_71 : Go.Vm.Good Try.prog sid (fun f => fnIds.lookup f) (71, ir71) := .inl ⟨rfl, Try.f86, [], Try.func86, by kernel_rfl, by kernel_rfl⟩
theorem good_120 : Go.Vm.Good Try.prog sid (fun f => fnIds.lookup f) (120, ir120) := .inl ⟨rfl, Try.f36, [], Try.func36, by kernel_rfl, by kernel_rfl⟩
theorem good_232 : Go.Vm.Good Try.prog sid (fun f => fnIds.lookup f) (232, ir232) := .inl ⟨rfl, Try.f73, [], Try.func73, by kernel_rfl, by kernel_rfl⟩
theorem good_349 : Go.Vm.Good Try.prog sid (fun f => fnIds.lookup f) (349, ir349) := .inl ⟨rfl, Try.f112, [], Try.func112, by kernel_rfl, by kernel_rfl⟩
theorem good_269 : Go.Vm.Good Try.prog sid (fun f => fnIds.lookup f) (269, ir269) := .inl ⟨rfl, Try.f89, [], Try.func89, by kernel_rfl, by kernel_rfl⟩
theorem good_341 : Go.Vm.Good Try.prog sid (fun f => fnIds.lookup f) (341, ir341) := .inl ⟨rfl, Try.f121, [], Try.func121, by kernel_rfl, by kernel_rfl⟩
theorem good_234 : Go.Vm.Good Try.prog sid (fun f => fnIds.lookup f) (234, ir234) := .inl ⟨rfl, Try.f110, [], Try.func110, by kernel_rfl, by kernel_rfl⟩
theorem good_377 : Go.Vm.Good Try.prog sid (fun f => fnIds.lookup f) (377, ir377) := .inl ⟨rfl, Try.f120, [], Try.func120, by kernel_rfl, by kernel_rfl⟩
theorem good_336 : Go.Vm.Good Try.prog sid (fun f => fnIds.lookup f) (336, ir336) := .inl ⟨rfl, Try.f103, [], Try.func103, by kernel_rfl, by kernel_rfl⟩
theorem good_340 : Go.Vm.Good Try.prog sid (fun f => fnIds.lookup f) (340, ir340) := .inl ⟨rfl, Try.f104, [], Try.func104, by kernel_rfl, by kernel_rfl⟩
theorem good_233 : Go.Vm.Good Try.prog sid (fun f => fnIds.lookup f) (233, ir233) := .inl ⟨rfl, Try.f74, [], Try.func74, by kernel_rfl, by kernel_rfl⟩
theorem good_235 : Go.Vm.Good Try.prog sid (fun f => fnIds.lookup f) (235, ir235) := .inl ⟨rfl, Try.f111, [], Try.func111, by kernel_rfl, by kernel_rfl⟩
theorem good_73 : Go.Vm.Good Try.prog sid (fun f => fnIds.lookup f) (73, ir73) := .inl ⟨rfl, Try.f88, [], Try.func88, by kernel_rfl, by kernel_rfl⟩
theorem good_121 : Go.Vm.Good Try.prog sid (fun f => fnIds.lookup f) (121, ir121) := .inl ⟨rfl, Try.f37, [], Try.func37, by kernel_rfl, by kernel_rfl⟩
theorem good_227 : Go.Vm.Good Try.prog sid (fun f => fnIds.lookup f) (227, ir227) := .inl ⟨rfl, Try.f60, [], Try.func60, by kernel_rfl, by kernel_rfl⟩
theorem good_70 : Go.Vm.Good Try.prog sid (fun f => fnIds.lookup f) (70, ir70) := .inl ⟨rfl, Try.f14, [], Try.func14, by kernel_rfl, by kernel_rfl⟩
theorem good_76 : Go.Vm.Good Try.prog sid (fun f => fnIds.lookup f) (76, ir76) := .inl ⟨rfl, Try.f58, [], Try.func58, by kernel_rfl, by kernel_rfl⟩
theorem good_72 : Go.Vm.Good Try.prog sid (fun f => fnIds.lookup f) (72, ir72) := .inl ⟨rfl, Try.f16, [], Try.func16, by kernel_rfl, by kernel_rfl⟩
theorem good_79 : Go.Vm.Good Try.prog sid (fun f => fnIds.lookup f) (79, ir79) := .inl ⟨rfl, Try.f40, [], Try.func40, by kernel_rfl, by kernel_rfl⟩
theorem good_74 : Go.Vm.Good Try.prog sid (fun f => fnIds.lookup f) (74, ir74) := .inl ⟨rfl, Try.f18, [], Try.func18, by kernel_rfl, by kernel_rfl⟩
theorem good_16 : Go.Vm.Good Try.prog sid (fun f => fnIds.lookup f) (16, ir16) := .inl ⟨rfl, Try.f8, [], Try.func8, by kernel_rfl, by kernel_rfl⟩
theorem tab : FnTab Try.prog sid (fun f => fnIds.lookup f) Tb := fnTab_of fnIds sid_ok (by kernel_rfl) tbl (by
  unfold tbl
  intro p hp
  simp only [List.mem_cons, List.not_mem_nil, or_false] at hp
  rcases hp with rfl | rfl | rfl | rfl | rfl | rfl | rfl | rfl | rfl | rfl | rfl | rfl | rfl | rfl | rfl | rfl | rfl | rfl | rfl | rfl | rfl | rfl | rfl | rfl | rfl
  · exact good_230
  · exact good_348
  · exact good_268
  · exact good_231
  · exact good_71
  · exact good_120
  · exact good_232
  · exact good_349
  · exact good_269
  · exact good_341
  · exact good_234
  · exact good_377
  · exact good_336
  · exact good_340
  · exact good_233
  · exact good_235
  · exact good_73
  · exact good_121
  · exact good_227
  · exact good_70
  · exact good_76
  · exact good_72
  · exact good_79
  · exact good_74
  · exact good_16)
set_option maxRecDepth 100000 in
theorem lifted (os : Os) (started : os.Started) (H : Type) (enc : TypeId × Value → H) :
    ReturnsInHanded {} Try.checked os 8 .any (Rows.fnExactTranscriptHashSpec.pre6 enc Try.prog Try.f8 Rows.fnExactTranscriptHashRow.domain false) (Rows.fnExactTranscriptHashSpec.post enc Try.prog Try.f8 false true false false) := by
  refine returnsInHanded_of_change (C := Try.checked) own started (by kernel_rfl) Try.func8
    (ChangeSpec.witness6 (enc := enc) (C := Try.checked) false ⟨#[], #[.slice none 0 0], []⟩ 8 (by kernel_rfl) (by kernel_rfl) (by kernel_rfl) (by kernel_rfl)) ?_
  intro W base args ds gs before hval hW _ _
  exact law_contract (C := Try.checked) (modes := md) (m := 8) tab (g := 16) (fn := Try.f8) (ls := [(false, [.row [.row [.int .i64]]])]) (by kernel_rfl) ans16 (s := Rows.fnExactTranscriptHashSpec) rfl (fun H ds h => by
      have h' : ds.length = 1 := h
      match ds, h' with
      | [_], _ => rfl) (tb := 4) (by kernel_rfl) (by kernel_rfl) laidOut (by
      intro t ht
      have key : ∀ t ∈ Try.f8.params.toList, Try.prog.readableRec t = true ∧ t < Try.prog.types.size := by
        rw [show Try.f8.params.toList = [22] by kernel_rfl]
        intro t ht
        simp only [List.mem_cons, List.not_mem_nil, or_false] at ht
        rcases ht with rfl <;> exact ⟨by kernel_rfl, of_decide_eq_true (by kernel_rfl)⟩
      exact key t ht) W base args ds gs before hval hW

theorem holds : Rows.FnExactTranscriptHashSaid :=
  OpenClaim.holds_of_wide 8 Try.f8 rfl rfl rfl rfl rfl rfl rfl ⟨rfl, rfl, rfl, rfl, rfl⟩ rfl rfl rfl rfl rfl (by kernel_rfl) Try.func8 (by kernel_rfl)
    (of_decide_eq_true (by kernel_rfl)) (by unfold Func.isWrapper; rw [if_neg (by decide +kernel)]; exact ⟨rfl, rfl⟩)
    (fun os started H enc _ => lifted os started H enc)
#print axioms holds
end Go.Proofs.Ytplnbpiaacohnaa
