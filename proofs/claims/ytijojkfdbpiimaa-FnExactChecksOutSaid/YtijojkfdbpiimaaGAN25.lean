/- What the law answers. -/
import Derived.Test.YtijojkfdbpiimaaGATab
import Derived.Test.YtijojkfdbpiimaaGAFA
import Derived.Test.YtijojkfdbpiimaaGAFB
set_option maxHeartbeats 4000000
set_option maxRecDepth 10000
set_option linter.unusedVariables false
set_option linter.unusedSimpArgs false
namespace Go.Vm
theorem law25 (key : Int) (wkey : Int64 key) (l : List (List Int)) (wl : l.length ≤ 9223372036854775807 ∧ ∀ y ∈ l, (y.length ≤ 9223372036854775807 ∧ ∀ n ∈ y, Int64 n)) (side : Int) (wside : Int64 side) (finish : Int) (wfinish : Int64 finish) :
  fix Tb md 25 [I key, R (row fR l) (.sp 1 0), I side, I finish] = some ⟨[B true], [], none⟩ := by
 generalize hr : (⟨_, [], none⟩ : Ret) = r
 obtain ⟨e1, he1⟩ := nm (row fR l)
 rw [← he1]
 obtain ⟨v1, hv1⟩ := nm (szL szR l 1048576)
 have u1 : v1 ≤ 1048576 := by rw [hv1]; exact (Sz.list szR_Sz l).up (by decide)
 have s1 := fun q : 0 ≤ v1 => (Sz.list szR_Sz l).ok 1048576 (by decide) (hv1 ▸ q)
 obtain ⟨w, hw⟩ := nm (chkV key l side finish)
 refine fix_fn2 (fn := ir25) tb_25 rfl rfl (by decide) rfl ?_; intro Q hQ; simp only [shutArgs, shutS, List.map_cons, List.map_nil, ir25, List.head?_nil, reduceCtorEq, if_false, sExt, sHello, sAnswer, sEdit, sDeal, sBox, sDialed, sKnown, shut_in (f := .sp 1 0) rfl]
 intro add sub mul arith eq ne lt le gt ge neg conv mn mx not beq len at' ln bd cut app allS isNil mks set o hP F ho
 have b1 : o 70 [R e1 (.sp 0 0), I 1048576] = some ⟨[I v1], [], none⟩ := by rw [ho, hv1, he1]; exact ok70 l _ wl (by decide) (by decide) rfl
 cbv
 rw [b1]; cbv
 refine both (fun d1 => ?_) (fun d1 => ?_) <;> rw [d1] <;> cbv
 ·rw [hQ]; cbv; exact congrArg some hr
 have p1 : 0 ≤ v1 := by simp only [F.lt, decide_eq_false_iff_not] at d1; omega
 have tl := s1 p1
 have tlm : l.length ≤ 1073741824 ∧ ∀ y ∈ l, y.length ≤ 1073741824 := ⟨Nat.le_trans tl.1 (by decide), fun y hy => Nat.le_trans (tl.2 y hy) (by decide)⟩
 have rl := tl
 have kl : o 72 [R e1 (.sp 0 0)] = some ⟨[R e1 (.ow false)], [], none⟩ := by rw [ho, he1]; exact ok72 l tlm rfl
 have ql : o 74 [R e1 (.sp 0 0), R e1 (.sp 1 0)] = some ⟨[B true], [], none⟩ := by rw [ho, he1]; exact ok74 l tlm rfl  rfl
 have m1 : o 145 [I key, R e1 (.sp 1 0), I side, I finish] = some ⟨[B w], [], none⟩ := by rw [ho, hw, he1]; exact ok145 key l side finish tl rfl
 have m2 : o 146 [I key, R e1 (.sp 1 0), I side, I finish] = some ⟨[B w], [], none⟩ := by rw [ho, hw, he1]; exact ok146 key l side finish tl rfl
 try (rw [kl]; cbv)
 try (rw [m1]; cbv)
 try (rw [kl]; cbv)
 try (rw [m2]; cbv)
 try (rw [show not (beq w w) = false by rw [F.not, F.beq]; simp]; cbv)
 try (rw [kl]; cbv)
 try (rw [ql]; cbv)
 try (rw [show not true = false by rw [F.not]; rfl]; cbv)
 repeat' (first | (rw [kl]; cbv) | (rw [ql]; cbv) | (rw [m1]; cbv) | (rw [m2]; cbv) | (rw [F.ne_f rfl]; cbv) | (rw [show not (beq w w) = false by rw [F.not, F.beq]; simp]; cbv) | (rw [show not true = false by rw [F.not]; rfl]; cbv) | (rw [hQ]; cbv; exact congrArg some hr))
theorem ans25 : Answers Tb md 25 [(false, [.int .i64]), (false, [.row [.row [.int .i64]]]), (false, [.int .i64]), (false, [.int .i64])] := answers_of (by
 intro vs h_
 obtain ⟨key, rfl, wkey⟩ := fitL_I h_
 intro vs h_
 obtain ⟨_, _, rfl, h1_, h_⟩ := fitL_cons h_
 cases fitL_nil h_
 obtain ⟨l, rfl, wl⟩ := fit_row (fun _ => fitL_R) h1_
 intro vs h_
 obtain ⟨side, rfl, wside⟩ := fitL_I h_
 intro vs h_
 obtain ⟨finish, rfl, wfinish⟩ := fitL_I h_
 exact law25 key wkey l wl side wside finish wfinish)
end Go.Vm
