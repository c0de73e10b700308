/- FnExactPlainHello: whatever the input, the law returns true and each argument reads behind the call as it read before; no condition. -/
import Derived.Test.YtjlddmnohjohaaaRows
import Derived.Test.YtjlddmnohjohaaaL8Fns
import Derived.ProofKit
set_option maxHeartbeats 4000000
set_option linter.unusedVariables false
set_option linter.unusedSimpArgs false
namespace Go.Proofs.Ytjlddmnohjohaaa
open Go.ChangeShapes Go.WideShapes Go.ChangeAt Go.RowKit Go.Vm
def fnIds : List (Nat × Nat) := [(2, 2), (3, 3), (4, 4), (5, 5), (6, 6), (7, 7), (8, 8), (9, 56), (10, 57), (11, 58), (12, 59), (13, 60), (14, 61), (15, 62), (16, 63), (17, 64), (18, 65), (19, 66), (20, 67), (21, 68), (22, 69), (23, 70), (24, 71), (25, 72), (26, 73), (27, 74), (28, 75), (29, 76), (30, 77), (31, 78), (32, 79), (33, 1080), (34, 1081), (35, 82), (36, 227), (37, 228), (38, 229), (39, 230), (40, 231), (41, 232), (42, 233), (43, 234), (44, 235), (45, 200), (46, 1201), (47, 125), (48, 236), (49, 336), (50, 340), (51, 341), (52, 321), (53, 377)]
def sid (g : Nat) : Nat := ((fnIds.find? fun p => p.2 == g).map (·.1)).getD 0
theorem sid_ok : ∀ p ∈ fnIds, sid p.2 = p.1 := by decide +kernel
theorem own : ownKnob Try.prog.godebug = none := by kernel_rfl
theorem laidOut : laidOutB Try.prog = true := by kernel_rfl
theorem good_1080 : Go.Vm.Good Try.prog sid (fun f => fnIds.lookup f) (1080, ir1080) := .inl ⟨rfl, Try.f33, [.mrow, .val], Try.func33, by kernel_rfl, by kernel_rfl⟩
theorem good_1201 : Go.Vm.Good Try.prog sid (fun f => fnIds.lookup f) (1201, ir1201) := .inl ⟨rfl, Try.f46, [.mrow, .val], Try.func46, by kernel_rfl, by kernel_rfl⟩
theorem good_1081 : Go.Vm.Good Try.prog sid (fun f => fnIds.lookup f) (1081, ir1081) := .inl ⟨rfl, Try.f34, [.mrow, .val], Try.func34, by kernel_rfl, by kernel_rfl⟩
theorem good_75 : Go.Vm.Good Try.prog sid (fun f => fnIds.lookup f) (75, ir75) := .inl ⟨rfl, Try.f28, [], Try.func28, by kernel_rfl, by kernel_rfl⟩
theorem good_76 : Go.Vm.Good Try.prog sid (fun f => fnIds.lookup f) (76, ir76) := .inl ⟨rfl, Try.f29, [], Try.func29, by kernel_rfl, by kernel_rfl⟩
theorem good_77 : Go.Vm.Good Try.prog sid (fun f => fnIds.lookup f) (77, ir77) := .inl ⟨rfl, Try.f30, [], Try.func30, by kernel_rfl, by kernel_rfl⟩
theorem good_79 : Go.Vm.Good Try.prog sid (fun f => fnIds.lookup f) (79, ir79) := .inl ⟨rfl, Try.f32, [], Try.func32, by kernel_rfl, by kernel_rfl⟩
theorem good_321 : Go.Vm.Good Try.prog sid (fun f => fnIds.lookup f) (321, ir321) := .inl ⟨rfl, Try.f52, [], Try.func52, by kernel_rfl, by kernel_rfl⟩
theorem good_200 : Go.Vm.Good Try.prog sid (fun f => fnIds.lookup f) (200, ir200) := .inl ⟨rfl, Try.f45, [], Try.func45, by kernel_rfl, by kernel_rfl⟩
theorem good_78 : Go.Vm.Good Try.prog sid (fun f => fnIds.lookup f) (78, ir78) := .inl ⟨rfl, Try.f31, [], Try.func31, by kernel_rfl, by kernel_rfl⟩
theorem good_125 : Go.Vm.Good Try.prog sid (fun f => fnIds.lookup f) (125, ir125) := .inl ⟨rfl, Try.f47, [], Try.func47, by kernel_rfl, by kernel_rfl⟩
theorem good_236 : Go.Vm.Good Try.prog sid (fun f => fnIds.lookup f) (236, ir236) := .inl ⟨rfl, Try.f48, [], Try.func48, by kernel_rfl, by kernel_rfl⟩
theorem good_82 : Go.Vm.Good Try.prog sid (fun f => fnIds.lookup f) (82, ir82) := .inl ⟨rfl, Try.f35, [], Try.func35, by kernel_rfl, by kernel_rfl⟩
theorem good_8 : Go.Vm.Good Try.prog sid (fun f => fnIds.lookup f) (8, ir8) := .inl ⟨rfl, Try.f8, [], Try.func8, by kernel_rfl, by kernel_rfl⟩
theorem tab : FnTab Try.prog sid (fun f => fnIds.lookup f) Tb := fnTab_of fnIds sid_ok (by kernel_rfl) tbl (by
  unfold tbl
  intro p hp
  simp only [List.mem_cons, List.not_mem_nil, or_false] at hp
  rcases hp with rfl | rfl | rfl | rfl | rfl | rfl | rfl | rfl | rfl | rfl | rfl | rfl | rfl | rfl
  · exact good_1080
  · exact good_1201
  · exact good_1081
  · exact good_75
  · exact good_76
  · exact good_77
  · exact good_79
  · exact good_321
  · exact good_200
  · exact good_78
  · exact good_125
  · exact good_236
  · exact good_82
  · exact good_8)
set_option maxRecDepth 100000 in
theorem lifted (os : Os) (started : os.Started) (H : Type) (enc : TypeId × Value → H) :
    ReturnsInHanded {} Try.checked os 8 .any (Rows.fnExactPlainHelloSpec.pre6 enc Try.prog Try.f8 Rows.fnExactPlainHelloRow.domain false) (Rows.fnExactPlainHelloSpec.post enc Try.prog Try.f8 false true false false) := by
  refine returnsInHanded_of_change (C := Try.checked) own started (by kernel_rfl) Try.func8
    (ChangeSpec.witness6 (enc := enc) (C := Try.checked) false ⟨#[], #[.slice none 0 0], []⟩ 8 (by kernel_rfl) (by kernel_rfl) (by kernel_rfl) (by kernel_rfl)) ?_
  intro W base args ds gs before hval hW _ _
  exact law_contract (C := Try.checked) (modes := md) (m := 8) tab (g := 8) (fn := Try.f8) (ls := [(false, [.row [.int .i64]])]) (by kernel_rfl) ans8 (s := Rows.fnExactPlainHelloSpec) rfl (fun H ds h => by
      have h' : ds.length = 1 := h
      match ds, h' with
      | [_], _ => rfl) (tb := 4) (by kernel_rfl) (by kernel_rfl) laidOut (by
      intro t ht
      have key : ∀ t ∈ Try.f8.params.toList, Try.prog.readableRec t = true ∧ t < Try.prog.types.size := by
        rw [show Try.f8.params.toList = [22] by kernel_rfl]
        intro t ht
        simp only [List.mem_cons, List.not_mem_nil, or_false] at ht
        rcases ht with rfl <;> exact ⟨by kernel_rfl, of_decide_eq_true (by kernel_rfl)⟩
      exact key t ht) W base args ds gs before hval hW

theorem holds : Rows.FnExactPlainHelloSaid :=
  OpenClaim.holds_of_wide 8 Try.f8 rfl rfl rfl rfl rfl rfl rfl ⟨rfl, rfl, rfl, rfl, rfl⟩ rfl rfl rfl rfl rfl (by kernel_rfl) Try.func8 (by kernel_rfl)
    (of_decide_eq_true (by kernel_rfl)) (by unfold Func.isWrapper; rw [if_neg (by decide +kernel)]; exact ⟨rfl, rfl⟩)
    (fun os started H enc _ => lifted os started H enc)
#print axioms holds
end Go.Proofs.Ytjlddmnohjohaaa
