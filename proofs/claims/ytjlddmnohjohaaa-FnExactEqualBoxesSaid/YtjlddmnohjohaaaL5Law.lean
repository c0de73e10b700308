/- FnExactEqualBoxes: whatever the input, the law returns true and each argument reads behind the call as it read before; no condition. -/
import Derived.Test.YtjlddmnohjohaaaRows
import Derived.Test.YtjlddmnohjohaaaL5Fns
import Derived.ProofKit
set_option linter.unusedVariables false
set_option linter.unusedSimpArgs false
namespace Go.Proofs.Ytjlddmnohjohaaa
open Go.ChangeShapes Go.WideShapes Go.ChangeAt Go.RowKit Go.Vm
def fnIds : List (Nat × Nat) := [(2, 2), (3, 3), (4, 4), (5, 5), (6, 6), (7, 7), (8, 8), (9, 56), (10, 57), (11, 58), (12, 59), (13, 60), (14, 61), (15, 62), (16, 63), (17, 64), (18, 65), (19, 66), (20, 67), (21, 68), (22, 69), (23, 70), (24, 71), (25, 72), (26, 73), (27, 74), (28, 75), (29, 76), (30, 77), (31, 78), (32, 79), (33, 1080), (34, 1081), (35, 82), (36, 227), (37, 228), (38, 229), (39, 230), (40, 231), (41, 232), (42, 233), (43, 234), (44, 235), (45, 200), (46, 1201), (47, 125), (48, 236), (49, 336), (50, 340), (51, 341), (52, 321), (53, 377)]
def sid (g : Nat) : Nat := ((fnIds.find? fun p => p.2 == g).map (·.1)).getD 0
theorem sid_ok : ∀ p ∈ fnIds, sid p.2 = p.1 := by decide +kernel
theorem own : ownKnob Try.prog.godebug = none := by kernel_rfl
theorem laidOut : laidOutB Try.prog = true := by kernel_rfl
theorem good_227 : Go.Vm.Good Try.prog sid (fun f => fnIds.lookup f) (227, ir227) := .inl ⟨rfl, Try.f36, [], Try.func36, by kernel_rfl, by kernel_rfl⟩
theorem good_56 : Go.Vm.Good Try.prog sid (fun f => fnIds.lookup f) (56, ir56) := .inl ⟨rfl, Try.f9, [], Try.func9, by kernel_rfl, by kernel_rfl⟩
theorem good_76 : Go.Vm.Good Try.prog sid (fun f => fnIds.lookup f) (76, ir76) := .inl ⟨rfl, Try.f29, [], Try.func29, by kernel_rfl, by kernel_rfl⟩
theorem good_58 : Go.Vm.Good Try.prog sid (fun f => fnIds.lookup f) (58, ir58) := .inl ⟨rfl, Try.f11, [], Try.func11, by kernel_rfl, by kernel_rfl⟩
theorem good_79 : Go.Vm.Good Try.prog sid (fun f => fnIds.lookup f) (79, ir79) := .inl ⟨rfl, Try.f32, [], Try.func32, by kernel_rfl, by kernel_rfl⟩
theorem good_60 : Go.Vm.Good Try.prog sid (fun f => fnIds.lookup f) (60, ir60) := .inl ⟨rfl, Try.f13, [], Try.func13, by kernel_rfl, by kernel_rfl⟩
theorem good_228 : Go.Vm.Good Try.prog sid (fun f => fnIds.lookup f) (228, ir228) := .inl ⟨rfl, Try.f37, [], Try.func37, by kernel_rfl, by kernel_rfl⟩
theorem good_66 : Go.Vm.Good Try.prog sid (fun f => fnIds.lookup f) (66, ir66) := .inl ⟨rfl, Try.f19, [], Try.func19, by kernel_rfl, by kernel_rfl⟩
theorem good_229 : Go.Vm.Good Try.prog sid (fun f => fnIds.lookup f) (229, ir229) := .inl ⟨rfl, Try.f38, [], Try.func38, by kernel_rfl, by kernel_rfl⟩
theorem good_67 : Go.Vm.Good Try.prog sid (fun f => fnIds.lookup f) (67, ir67) := .inl ⟨rfl, Try.f20, [], Try.func20, by kernel_rfl, by kernel_rfl⟩
theorem good_5 : Go.Vm.Good Try.prog sid (fun f => fnIds.lookup f) (5, ir5) := .inl ⟨rfl, Try.f5, [], Try.func5, by kernel_rfl, by kernel_rfl⟩
theorem tab : FnTab Try.prog sid (fun f => fnIds.lookup f) Tb := fnTab_of fnIds sid_ok (by kernel_rfl) tbl (by
  unfold tbl
  intro p hp
  simp only [List.mem_cons, List.not_mem_nil, or_false] at hp
  rcases hp with rfl | rfl | rfl | rfl | rfl | rfl | rfl | rfl | rfl | rfl | rfl
  · exact good_227
  · exact good_56
  · exact good_76
  · exact good_58
  · exact good_79
  · exact good_60
  · exact good_228
  · exact good_66
  · exact good_229
  · exact good_67
  · exact good_5)
set_option maxRecDepth 100000 in
theorem lifted (os : Os) (started : os.Started) (H : Type) (enc : TypeId × Value → H) :
    ReturnsInHanded {} Try.checked os 5 .any (Rows.fnExactEqualBoxesSpec.pre6 enc Try.prog Try.f5 Rows.fnExactEqualBoxesRow.domain false) (Rows.fnExactEqualBoxesSpec.post enc Try.prog Try.f5 false true false false) := by
  refine returnsInHanded_of_change (C := Try.checked) own started (by kernel_rfl) Try.func5
    (ChangeSpec.witness6 (enc := enc) (C := Try.checked) false ⟨#[], #[.agg #[.int .i64 0, .slice none 0 0, .slice none 0 0, .bool false], .agg #[.int .i64 0, .slice none 0 0, .slice none 0 0, .bool false]], []⟩ 8 (by kernel_rfl) (by kernel_rfl) (by kernel_rfl) (by kernel_rfl)) ?_
  intro W base args ds gs before hval hW _ _
  exact law_contract (C := Try.checked) (modes := md) (m := 8) tab (g := 5) (fn := Try.f5) (ls := [(true, [.int .i64, .row [.int .i64], .row [.int .i64], .bool]), (true, [.int .i64, .row [.int .i64], .row [.int .i64], .bool])]) (by kernel_rfl) ans5 (s := Rows.fnExactEqualBoxesSpec) rfl (fun H ds h => by
      have h' : ds.length = 2 := h
      match ds, h' with
      | [_, _], _ => rfl) (tb := 4) (by kernel_rfl) (by kernel_rfl) laidOut (by
      intro t ht
      have key : ∀ t ∈ Try.f5.params.toList, Try.prog.readableRec t = true ∧ t < Try.prog.types.size := by
        rw [show Try.f5.params.toList = [24, 24] by kernel_rfl]
        intro t ht
        simp only [List.mem_cons, List.not_mem_nil, or_false] at ht
        rcases ht with rfl | rfl <;> exact ⟨by kernel_rfl, of_decide_eq_true (by kernel_rfl)⟩
      exact key t ht) W base args ds gs before hval hW

theorem holds : Rows.FnExactEqualBoxesSaid :=
  OpenClaim.holds_of_wide 5 Try.f5 rfl rfl rfl rfl rfl rfl rfl ⟨rfl, rfl, rfl, rfl, rfl⟩ rfl rfl rfl rfl rfl (by kernel_rfl) Try.func5 (by kernel_rfl)
    (of_decide_eq_true (by kernel_rfl)) (by unfold Func.isWrapper; rw [if_neg (by decide +kernel)]; exact ⟨rfl, rfl⟩)
    (fun os started H enc _ => lifted os started H enc)
#print axioms holds
end Go.Proofs.Ytjlddmnohjohaaa
