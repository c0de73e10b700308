/- What the law answers. -/
import Derived.Test.YtokkeikhghanpaaGATab
import Derived.Test.YtokkeikhghanpaaGAFA
import Derived.Test.YtokkeikhghanpaaGAFL
import Derived.Test.YtokkeikhghanpaaGAFN
set_option maxHeartbeats 4000000
set_option maxRecDepth 10000
set_option linter.unusedVariables false
set_option linter.unusedSimpArgs false
namespace Go.Vm
theorem law48 (h : Hello) (wh : h.Fits) (path : List Box) (wpath : path.length ≤ 9223372036854775807 ∧ ∀ y ∈ path, y.Fits) (versions : List Int) (wversions : versions.length ≤ 9223372036854775807 ∧ ∀ y ∈ versions, Int64 y) :
  fix Tb md 48 [sHello (row fI h.versions) (row fExt h.exts) (.sp 0 0) (.sp 0 1), R (row fBox path) (.sp 1 0), R (row fI versions) (.sp 2 0)] = some ⟨[B true], [], none⟩ := by
 generalize hr : (⟨_, [], none⟩ : Ret) = r
 obtain ⟨e1, he1⟩ := nm (row fI h.versions)
 obtain ⟨e2, he2⟩ := nm (row fExt h.exts)
 obtain ⟨e3, he3⟩ := nm (row fBox path)
 obtain ⟨e4, he4⟩ := nm (row fI versions)
 rw [← he1, ← he2, ← he3, ← he4]
 obtain ⟨v1, hv1⟩ := nm (szHello h 1048576)
 have u1 : v1 ≤ 1048576 := by rw [hv1]; exact (szHello_Sz h).up (by decide)
 have s1 := fun q : 0 ≤ v1 => (szHello_Sz h).ok 1048576 (by decide) (hv1 ▸ q)
 obtain ⟨v2, hv2⟩ := nm (szL szBox path v1)
 have u2 : v2 ≤ 1048576 := by rw [hv2]; exact (Sz.list szBox_Sz path).up u1
 have s2 := fun q : 0 ≤ v2 => (Sz.list szBox_Sz path).ok v1 u1 (hv2 ▸ q)
 obtain ⟨w, hw⟩ := nm (bdV h path versions)
 refine fix_fn2 (fn := ir48) tb_48 rfl rfl (by decide) rfl ?_; intro Q hQ; simp only [shutArgs, shutS, List.map_cons, List.map_nil, ir48, List.head?_nil, reduceCtorEq, if_false, sExt, sHello, sAnswer, sEdit, sDeal, sBox, sDialed, sKnown, shut_in (f := .sp 0 0) rfl, shut_in (f := .sp 0 1) rfl, shut_in (f := .sp 1 0) rfl, shut_in (f := .sp 2 0) rfl]
 intro add sub mul arith eq ne lt le gt ge neg conv mn mx not beq len at' ln bd cut app allS isNil mks set o hP F ho
 have le4 := F.len_at he4
 have b1 : o 83 [sHello e1 e2 (.sp 0 0) (.sp 0 1), I 1048576] = some ⟨[I v1], [], none⟩ := by rw [ho, hv1, he1, he2]; exact ok83 h _ wh (by decide) (by decide) rfl rfl
 have b2 : 0 ≤ v1 → o 101 [R e3 (.sp 0 0), I v1] = some ⟨[I v2], [], none⟩ := by intro q; rw [ho, hv2, he3]; exact ok101 path _ wpath q u1 rfl
 cbv
 refine both (fun dversions => ?_) (fun dversions => ?_) <;> rw [dversions] <;> cbv
 ·rw [hQ]; cbv; exact congrArg some hr
 have tversions : versions.length ≤ 1048576 := by unfold At at le4; simp only [F.gt, le4, decide_eq_false_iff_not] at dversions; omega
 rw [b1]; cbv
 refine both (fun d1 => ?_) (fun d1 => ?_) <;> rw [d1] <;> cbv
 ·rw [hQ]; cbv; exact congrArg some hr
 have p1 : 0 ≤ v1 := by simp only [F.lt, decide_eq_false_iff_not] at d1; omega
 have th := s1 p1
 have thm := th.mid
 have rh := th
 unfold Hello.Small at rh
 rw [b2 p1]; cbv
 refine both (fun d2 => ?_) (fun d2 => ?_) <;> rw [d2] <;> cbv
 ·rw [hQ]; cbv; exact congrArg some hr
 have p2 : 0 ≤ v2 := by simp only [F.lt, decide_eq_false_iff_not] at d2; omega
 have tpath := s2 p2
 have tpathm : path.length ≤ 1073741824 ∧ ∀ y ∈ path, y.Mid := ⟨Nat.le_trans tpath.1 (by decide), fun y hy => (tpath.2 y hy).mid⟩
 have rpath := tpath
 have kh : o 85 [sHello e1 e2 (.sp 0 0) (.sp 0 1)] = some ⟨[sHello e1 e2 (.ow false) (.ow false)], [], none⟩ := by rw [ho, he1, he2]; exact ok85 h thm rfl rfl
 have qh : o 78 [sHello e1 e2 (.sp 0 0) (.sp 0 1), sHello e1 e2 (.sp 1 0) (.sp 1 1)] = some ⟨[B true], [], none⟩ := by rw [ho, he1, he2]; exact ok78 h thm rfl rfl  rfl rfl
 have kpath : o 103 [R e3 (.sp 0 0)] = some ⟨[R e3 (.ow false)], [], none⟩ := by rw [ho, he3]; exact ok103 path tpathm rfl
 have qpath : o 105 [R e3 (.sp 0 0), R e3 (.sp 1 0)] = some ⟨[B true], [], none⟩ := by rw [ho, he3]; exact ok105 path tpathm rfl  rfl
 have kversions : o 76 [R e4 (.sp 0 0)] = some ⟨[R e4 (.ow false)], [], none⟩ := by rw [ho, he4]; exact ok76 versions (show versions.length ≤ 1099511627776 by omega) rfl
 have qversions : o 79 [R e4 (.sp 0 0), R e4 (.sp 1 0)] = some ⟨[B true], [], none⟩ := by rw [ho, he4]; exact ok79t versions (show versions.length ≤ 1099511627776 by omega) rfl  rfl
 have m1 : o 206 [sHello e1 e2 (.sp 0 0) (.sp 0 1), R e3 (.sp 1 0), R e4 (.sp 2 0)] = some ⟨[I w], [], none⟩ := by rw [ho, hw, he1, he2, he3, he4]; exact ok206 h path versions thm tpathm.1 tpathm.2 (by omega) rfl rfl rfl rfl
 have m2 : o 207 [sHello e1 e2 (.sp 0 0) (.sp 0 1), R e3 (.sp 1 0), R e4 (.sp 2 0)] = some ⟨[I w], [], none⟩ := by rw [ho, hw, he1, he2, he3, he4]; exact ok207 h path versions thm tpathm.1 tpathm.2 (by omega) rfl rfl rfl rfl
 try (rw [kh]; cbv)
 try (rw [kpath]; cbv)
 try (rw [kversions]; cbv)
 try (rw [m1]; cbv)
 try (rw [kh]; cbv)
 try (rw [kpath]; cbv)
 try (rw [kversions]; cbv)
 try (rw [m2]; cbv)
 try (rw [F.ne_f rfl]; cbv)
 try (rw [kh]; cbv)
 try (rw [qh]; cbv)
 try (rw [show not true = false by rw [F.not]; rfl]; cbv)
 try (rw [kpath]; cbv)
 try (rw [qpath]; cbv)
 try (rw [show not true = false by rw [F.not]; rfl]; cbv)
 try (rw [kversions]; cbv)
 try (rw [qversions]; cbv)
 try (rw [show not true = false by rw [F.not]; rfl]; cbv)
 repeat' (first | (rw [kh]; cbv) | (rw [qh]; cbv) | (rw [kpath]; cbv) | (rw [qpath]; cbv) | (rw [kversions]; cbv) | (rw [qversions]; cbv) | (rw [m1]; cbv) | (rw [m2]; cbv) | (rw [F.ne_f rfl]; cbv) | (rw [show not (beq w w) = false by rw [F.not, F.beq]; simp]; cbv) | (rw [show not true = false by rw [F.not]; rfl]; cbv) | (rw [hQ]; cbv; exact congrArg some hr))
theorem ans48 : Answers Tb md 48 [(true, [.row [.int .i64], .row [.int .i64, .row [.int .i64]]]), (false, [.row [.int .i64, .row [.int .i64], .row [.int .i64], .bool]]), (false, [.row [.int .i64]])] := answers_of (by
 intro vs h_
 obtain ⟨h, rfl, wh⟩ := fitL_Hello h_
 intro vs h_
 obtain ⟨_, _, rfl, h1_, h_⟩ := fitL_cons h_
 cases fitL_nil h_
 obtain ⟨path, rfl, wpath⟩ := fit_row (fun _ => fitL_Box) h1_
 intro vs h_
 obtain ⟨versions, rfl, wversions⟩ := fitL_R h_
 exact law48 h wh path wpath versions wversions)
end Go.Vm
