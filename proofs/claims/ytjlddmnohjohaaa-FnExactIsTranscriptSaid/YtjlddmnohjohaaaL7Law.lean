/- FnExactIsTranscript: whatever the input, the law returns true and each argument reads behind the call as it read before; no condition. -/
import Derived.Test.YtjlddmnohjohaaaRows
import Derived.Test.YtjlddmnohjohaaaL7Fns
import Derived.ProofKit
set_option linter.unusedVariables false
set_option linter.unusedSimpArgs false
namespace Go.Proofs.Ytjlddmnohjohaaa
open Go.ChangeShapes Go.WideShapes Go.ChangeAt Go.RowKit Go.Vm
def fnIds : List (Nat × Nat) := [(2, 2), (3, 3), (4, 4), (5, 5), (6, 6), (7, 7), (8, 8), (9, 56), (10, 57), (11, 58), (12, 59), (13, 60), (14, 61), (15, 62), (16, 63), (17, 64), (18, 65), (19, 66), (20, 67), (21, 68), (22, 69), (23, 70), (24, 71), (25, 72), (26, 73), (27, 74), (28, 75), (29, 76), (30, 77), (31, 78), (32, 79), (33, 1080), (34, 1081), (35, 82), (36, 227), (37, 228), (38, 229), (39, 230), (40, 231), (41, 232), (42, 233), (43, 234), (44, 235), (45, 200), (46, 1201), (47, 125), (48, 236), (49, 336), (50, 340), (51, 341), (52, 321), (53, 377)]
def sid (g : Nat) : Nat := ((fnIds.find? fun p => p.2 == g).map (·.1)).getD 0
theorem sid_ok : ∀ p ∈ fnIds, sid p.2 = p.1 := by decide +kernel
theorem own : ownKnob Try.prog.godebug = none := by kernel_rfl
theorem laidOut : laidOutB Try.prog = true := by kernel_rfl
theorem good_227 : Go.Vm.Good Try.prog sid (fun f => fnIds.lookup f) (227, ir227) := .inl ⟨rfl, Try.f36, [], Try.func36, by kernel_rfl, by kernel_rfl⟩
theorem good_70 : Go.Vm.Good Try.prog sid (fun f => fnIds.lookup f) (70, ir70) := .inl ⟨rfl, Try.f23, [], Try.func23, by kernel_rfl, by kernel_rfl⟩
theorem good_230 : Go.Vm.Good Try.prog sid (fun f => fnIds.lookup f) (230, ir230) := .inl ⟨rfl, Try.f39, [], Try.func39, by kernel_rfl, by kernel_rfl⟩
theorem good_231 : Go.Vm.Good Try.prog sid (fun f => fnIds.lookup f) (231, ir231) := .inl ⟨rfl, Try.f40, [], Try.func40, by kernel_rfl, by kernel_rfl⟩
theorem good_71 : Go.Vm.Good Try.prog sid (fun f => fnIds.lookup f) (71, ir71) := .inl ⟨rfl, Try.f24, [], Try.func24, by kernel_rfl, by kernel_rfl⟩
theorem good_76 : Go.Vm.Good Try.prog sid (fun f => fnIds.lookup f) (76, ir76) := .inl ⟨rfl, Try.f29, [], Try.func29, by kernel_rfl, by kernel_rfl⟩
theorem good_72 : Go.Vm.Good Try.prog sid (fun f => fnIds.lookup f) (72, ir72) := .inl ⟨rfl, Try.f25, [], Try.func25, by kernel_rfl, by kernel_rfl⟩
theorem good_341 : Go.Vm.Good Try.prog sid (fun f => fnIds.lookup f) (341, ir341) := .inl ⟨rfl, Try.f51, [], Try.func51, by kernel_rfl, by kernel_rfl⟩
theorem good_234 : Go.Vm.Good Try.prog sid (fun f => fnIds.lookup f) (234, ir234) := .inl ⟨rfl, Try.f43, [], Try.func43, by kernel_rfl, by kernel_rfl⟩
theorem good_377 : Go.Vm.Good Try.prog sid (fun f => fnIds.lookup f) (377, ir377) := .inl ⟨rfl, Try.f53, [], Try.func53, by kernel_rfl, by kernel_rfl⟩
theorem good_336 : Go.Vm.Good Try.prog sid (fun f => fnIds.lookup f) (336, ir336) := .inl ⟨rfl, Try.f49, [], Try.func49, by kernel_rfl, by kernel_rfl⟩
theorem good_232 : Go.Vm.Good Try.prog sid (fun f => fnIds.lookup f) (232, ir232) := .inl ⟨rfl, Try.f41, [], Try.func41, by kernel_rfl, by kernel_rfl⟩
theorem good_340 : Go.Vm.Good Try.prog sid (fun f => fnIds.lookup f) (340, ir340) := .inl ⟨rfl, Try.f50, [], Try.func50, by kernel_rfl, by kernel_rfl⟩
theorem good_233 : Go.Vm.Good Try.prog sid (fun f => fnIds.lookup f) (233, ir233) := .inl ⟨rfl, Try.f42, [], Try.func42, by kernel_rfl, by kernel_rfl⟩
theorem good_235 : Go.Vm.Good Try.prog sid (fun f => fnIds.lookup f) (235, ir235) := .inl ⟨rfl, Try.f44, [], Try.func44, by kernel_rfl, by kernel_rfl⟩
theorem good_73 : Go.Vm.Good Try.prog sid (fun f => fnIds.lookup f) (73, ir73) := .inl ⟨rfl, Try.f26, [], Try.func26, by kernel_rfl, by kernel_rfl⟩
theorem good_79 : Go.Vm.Good Try.prog sid (fun f => fnIds.lookup f) (79, ir79) := .inl ⟨rfl, Try.f32, [], Try.func32, by kernel_rfl, by kernel_rfl⟩
theorem good_74 : Go.Vm.Good Try.prog sid (fun f => fnIds.lookup f) (74, ir74) := .inl ⟨rfl, Try.f27, [], Try.func27, by kernel_rfl, by kernel_rfl⟩
theorem good_7 : Go.Vm.Good Try.prog sid (fun f => fnIds.lookup f) (7, ir7) := .inl ⟨rfl, Try.f7, [], Try.func7, by kernel_rfl, by kernel_rfl⟩
theorem tab : FnTab Try.prog sid (fun f => fnIds.lookup f) Tb := fnTab_of fnIds sid_ok (by kernel_rfl) tbl (by
  unfold tbl
  intro p hp
  simp only [List.mem_cons, List.not_mem_nil, or_false] at hp
  rcases hp with rfl | rfl | rfl | rfl | rfl | rfl | rfl | rfl | rfl | rfl | rfl | rfl | rfl | rfl | rfl | rfl | rfl | rfl | rfl
  · exact good_227
  · exact good_70
  · exact good_230
  · exact good_231
  · exact good_71
  · exact good_76
  · exact good_72
  · exact good_341
  · exact good_234
  · exact good_377
  · exact good_336
  · exact good_232
  · exact good_340
  · exact good_233
  · exact good_235
  · exact good_73
  · exact good_79
  · exact good_74
  · exact good_7)
set_option maxRecDepth 100000 in
theorem lifted (os : Os) (started : os.Started) (H : Type) (enc : TypeId × Value → H) :
    ReturnsInHanded {} Try.checked os 7 .any (Rows.fnExactIsTranscriptSpec.pre6 enc Try.prog Try.f7 Rows.fnExactIsTranscriptRow.domain false) (Rows.fnExactIsTranscriptSpec.post enc Try.prog Try.f7 false true false false) := by
  refine returnsInHanded_of_change (C := Try.checked) own started (by kernel_rfl) Try.func7
    (ChangeSpec.witness6 (enc := enc) (C := Try.checked) false ⟨#[], #[.slice none 0 0], []⟩ 8 (by kernel_rfl) (by kernel_rfl) (by kernel_rfl) (by kernel_rfl)) ?_
  intro W base args ds gs before hval hW _ _
  exact law_contract (C := Try.checked) (modes := md) (m := 8) tab (g := 7) (fn := Try.f7) (ls := [(false, [.row [.row [.int .i64]]])]) (by kernel_rfl) ans7 (s := Rows.fnExactIsTranscriptSpec) rfl (fun H ds h => by
      have h' : ds.length = 1 := h
      match ds, h' with
      | [_], _ => rfl) (tb := 4) (by kernel_rfl) (by kernel_rfl) laidOut (by
      intro t ht
      have key : ∀ t ∈ Try.f7.params.toList, Try.prog.readableRec t = true ∧ t < Try.prog.types.size := by
        rw [show Try.f7.params.toList = [39] by kernel_rfl]
        intro t ht
        simp only [List.mem_cons, List.not_mem_nil, or_false] at ht
        rcases ht with rfl <;> exact ⟨by kernel_rfl, of_decide_eq_true (by kernel_rfl)⟩
      exact key t ht) W base args ds gs before hval hW

theorem holds : Rows.FnExactIsTranscriptSaid :=
  OpenClaim.holds_of_wide 7 Try.f7 rfl rfl rfl rfl rfl rfl rfl ⟨rfl, rfl, rfl, rfl, rfl⟩ rfl rfl rfl rfl rfl (by kernel_rfl) Try.func7 (by kernel_rfl)
    (of_decide_eq_true (by kernel_rfl)) (by unfold Func.isWrapper; rw [if_neg (by decide +kernel)]; exact ⟨rfl, rfl⟩)
    (fun os started H enc _ => lifted os started H enc)
#print axioms holds
end Go.Proofs.Ytjlddmnohjohaaa
