/- What the law answers. -/
import Derived.Test.YtokkeikhghanpaaGATab
import Derived.Test.YtokkeikhghanpaaGAFA
import Derived.Test.YtokkeikhghanpaaGAFC
import Derived.Test.YtokkeikhghanpaaGAFD
import Derived.Test.YtokkeikhghanpaaGAFE
import Derived.Test.YtokkeikhghanpaaGAFJ
import Derived.Test.YtokkeikhghanpaaGAFK
set_option maxHeartbeats 4000000
set_option maxRecDepth 10000
set_option linter.unusedVariables false
set_option linter.unusedSimpArgs false
namespace Go.Vm
theorem law45 (path : List Box) (wpath : path.length ≤ 9223372036854775807 ∧ ∀ y ∈ path, y.Fits) (versions : List Int) (wversions : versions.length ≤ 9223372036854775807 ∧ ∀ y ∈ versions, Int64 y) (exts : List Ext) (wexts : exts.length ≤ 9223372036854775807 ∧ ∀ y ∈ exts, y.Fits) :
  fix Tb md 45 [R (row fBox path) (.sp 0 0), R (row fI versions) (.sp 1 0), R (row fExt exts) (.sp 2 0)] = some ⟨[B true], [], none⟩ := by
 generalize hr : (⟨_, [], none⟩ : Ret) = r
 obtain ⟨e1, he1⟩ := nm (row fBox path)
 obtain ⟨e2, he2⟩ := nm (row fI versions)
 obtain ⟨e3, he3⟩ := nm (row fExt exts)
 rw [← he1, ← he2, ← he3]
 obtain ⟨v1, hv1⟩ := nm (szL szBox path 1048576)
 have u1 : v1 ≤ 1048576 := by rw [hv1]; exact (Sz.list szBox_Sz path).up (by decide)
 have s1 := fun q : 0 ≤ v1 => (Sz.list szBox_Sz path).ok 1048576 (by decide) (hv1 ▸ q)
 obtain ⟨v2, hv2⟩ := nm (szL szExt exts v1)
 have u2 : v2 ≤ 1048576 := by rw [hv2]; exact (Sz.list szExt_Sz exts).up u1
 have s2 := fun q : 0 ≤ v2 => (Sz.list szExt_Sz exts).ok v1 u1 (hv2 ▸ q)
 obtain ⟨w, hw⟩ := nm (ltags path versions exts)
 refine fix_fn2 (fn := ir45) tb_45 rfl rfl (by decide) rfl ?_; intro Q hQ; simp only [shutArgs, shutS, List.map_cons, List.map_nil, ir45, List.head?_nil, reduceCtorEq, if_false, sExt, sHello, sAnswer, sEdit, sDeal, sBox, sDialed, sKnown, shut_in (f := .sp 0 0) rfl, shut_in (f := .sp 1 0) rfl, shut_in (f := .sp 2 0) rfl]
 intro add sub mul arith eq ne lt le gt ge neg conv mn mx not beq len at' ln bd cut app allS isNil mks set o hP F ho
 have le2 := F.len_at he2
 have b1 : o 101 [R e1 (.sp 0 0), I 1048576] = some ⟨[I v1], [], none⟩ := by rw [ho, hv1, he1]; exact ok101 path _ wpath (by decide) (by decide) rfl
 have b2 : 0 ≤ v1 → o 197 [R e3 (.sp 0 0), I v1] = some ⟨[I v2], [], none⟩ := by intro q; rw [ho, hv2, he3]; exact ok197 exts _ wexts q u1 rfl
 cbv
 refine both (fun dversions => ?_) (fun dversions => ?_) <;> rw [dversions] <;> cbv
 ·rw [hQ]; cbv; exact congrArg some hr
 have tversions : versions.length ≤ 1048576 := by unfold At at le2; simp only [F.gt, le2, decide_eq_false_iff_not] at dversions; omega
 rw [b1]; cbv
 refine both (fun d1 => ?_) (fun d1 => ?_) <;> rw [d1] <;> cbv
 ·rw [hQ]; cbv; exact congrArg some hr
 have p1 : 0 ≤ v1 := by simp only [F.lt, decide_eq_false_iff_not] at d1; omega
 have tpath := s1 p1
 have tpathm : path.length ≤ 1073741824 ∧ ∀ y ∈ path, y.Mid := ⟨Nat.le_trans tpath.1 (by decide), fun y hy => (tpath.2 y hy).mid⟩
 have rpath := tpath
 rw [b2 p1]; cbv
 refine both (fun d2 => ?_) (fun d2 => ?_) <;> rw [d2] <;> cbv
 ·rw [hQ]; cbv; exact congrArg some hr
 have p2 : 0 ≤ v2 := by simp only [F.lt, decide_eq_false_iff_not] at d2; omega
 have texts := s2 p2
 have textsm : exts.length ≤ 1073741824 ∧ ∀ y ∈ exts, y.Mid := ⟨Nat.le_trans texts.1 (by decide), fun y hy => (texts.2 y hy).mid⟩
 have rexts := texts
 have kpath : o 103 [R e1 (.sp 0 0)] = some ⟨[R e1 (.ow false)], [], none⟩ := by rw [ho, he1]; exact ok103 path tpathm rfl
 have qpath : o 105 [R e1 (.sp 0 0), R e1 (.sp 1 0)] = some ⟨[B true], [], none⟩ := by rw [ho, he1]; exact ok105 path tpathm rfl  rfl
 have kversions : o 76 [R e2 (.sp 0 0)] = some ⟨[R e2 (.ow false)], [], none⟩ := by rw [ho, he2]; exact ok76 versions (show versions.length ≤ 1099511627776 by omega) rfl
 have qversions : o 79 [R e2 (.sp 0 0), R e2 (.sp 1 0)] = some ⟨[B true], [], none⟩ := by rw [ho, he2]; exact ok79t versions (show versions.length ≤ 1099511627776 by omega) rfl  rfl
 have kexts : o 199 [R e3 (.sp 0 0)] = some ⟨[R e3 (.ow false)], [], none⟩ := by rw [ho, he3]; exact ok199 exts textsm rfl
 have qexts : o 200 [R e3 (.sp 0 0), R e3 (.sp 1 0)] = some ⟨[B true], [], none⟩ := by rw [ho, he3]; exact ok200 exts textsm rfl  rfl
 have wm : w.length ≤ 1073741824 := by rw [hw]; exact Nat.le_trans ltags_len textsm.1
 obtain ⟨g0, hg0⟩ := nm (row fI w)
 obtain ⟨h0, hh0⟩ := nm (row fI (mI w 1))
 obtain ⟨zz, hzz⟩ := nm (1 + (w.length : Int))
 have lr : Lim 1 (w.length) := Lim.of1 (by have := wm; omega)
 have l2 : lt zz 0 = false := by rw [F.lt, hzz]; simp; omega
 have l3 : ne zz zz = false := F.ne_f rfl
 have a0 : AtK 1 1 0 := AtK.zero
 have y0 := cBoxS_small tpath
 have y1 := tversions
 have y2 := cExtS_small texts
 have lk : Lim 1 (0 + cBoxS path + versions.length + cExtS exts) := Lim.of1 (by omega)
 obtain ⟨z1, hz1⟩ := nm (1 + (cBoxS path : Int))
 have a1 : AtK z1 1 (0 + cBoxS path) := hz1 ▸ a0.plus
 have v1m : Lim 1 (cBoxS path) := a0.lim lk (by omega)
 obtain ⟨x0_0, hx0_0⟩ := nm (row fBox (mBoxS path 1))
 have n1 : o 1172 [R e1 (.mp 0), I 1] = some ⟨[I z1], [.row () x0_0], none⟩ := by rw [ho, hz1, he1, hx0_0]; exact ok1172 _ _ v1m (Nat.le_trans tpathm.1 (by decide)) (fun y hy => Nat.le_trans ((tpathm.2 y hy).1) (by decide)) (fun y hy => Nat.le_trans ((tpathm.2 y hy).2) (by decide))
 obtain ⟨z2, hz2⟩ := nm (z1 + (versions.length : Int))
 have a2 : AtK z2 1 (0 + cBoxS path + versions.length) := hz2 ▸ a1.plus
 have v2m : Lim z1 (versions.length) := a1.lim lk (by omega)
 obtain ⟨x1_0, hx1_0⟩ := nm (row fI (mI versions z1))
 have n2 : o 1080 [R e2 (.mp 0), I z1] = some ⟨[I z2], [.row () x1_0], none⟩ := by rw [ho, hz2, he2, hx1_0]; exact ok1080 _ _ v2m (by omega)
 obtain ⟨z3, hz3⟩ := nm (z2 + (cExtS exts : Int))
 have a3 : AtK z3 1 (0 + cBoxS path + versions.length + cExtS exts) := hz3 ▸ a2.plus
 have v3m : Lim z2 (cExtS exts) := a2.lim lk (by omega)
 obtain ⟨x2_0, hx2_0⟩ := nm (row fExt (mExtS exts z2))
 have n3 : o 1201 [R e3 (.mp 0), I z2] = some ⟨[I z3], [.row () x2_0], none⟩ := by rw [ho, hz3, he3, hx2_0]; exact ok1201 _ _ v3m (Nat.le_trans textsm.1 (by decide)) (fun y hy => Nat.le_trans ((textsm.2 y hy)) (by decide))
 have l1 : lt z3 0 = false := by rw [F.lt]; have := a3.same; simp; omega
 have hs : fix Tb md 198 [R (row fBox path) (.sp 0 0), R (row fI versions) (.sp 1 0), R (row fExt exts) (.sp 2 0)] = some ⟨[R (row fI w) (.ow false)], [], none⟩ := by rw [hw]; exact ok198 path versions exts tpathm.1 tpathm.2 (by omega) textsm.1 textsm.2 rfl rfl rfl
 have hi : fix Tb md 186 [R (row fBox path) (.sp 0 0), R (row fI versions) (.sp 1 0), R (row fExt exts) (.sp 2 0)] = some ⟨[R (row fI w) (.ow false)], [], none⟩ := by rw [hw]; exact ok186 path versions exts tpathm.1 tpathm.2 (by omega) textsm.1 textsm.2 rfl rfl rfl
 have m1 : o 198 [R e1 (.sp 0 0), R e2 (.sp 1 0), R e3 (.sp 2 0)] = some ⟨[R g0 (.ow false)], [], none⟩ := by rw [ho, he1, he2, he3]; simp only [hg0]; exact hs
 have m2 : o 186 [R e1 (.sp 0 0), R e2 (.sp 1 0), R e3 (.sp 2 0)] = some ⟨[R g0 (.ow false)], [], none⟩ := by rw [ho, he1, he2, he3]; simp only [hg0]; exact hi
 have r1 : o 79 [R g0 (.sp 0 0), R g0 (.sp 1 0)] = some ⟨[B true], [], none⟩ := by
  have h := ok79t w (by omega) (f0 := (.sp 0 0)) (f1 := (.sp 1 0)) rfl rfl
  rw [ho]
  try simp only [hg0]
  exact h
 have r2 : o 1080 [R g0 (.mp 0), I 1] = some ⟨[I zz], [.row () h0], none⟩ := by
  have h := ok1080 w 1 lr (by omega)
  rw [ho, hzz]
  try simp only [hg0, hh0]
  exact h
 have r3 : o 125 [R h0 (.sp 0 0), I 1] = some ⟨[I zz], [], none⟩ := by
  have h := ok125 w 1 lr (by omega) (f0 := (.sp 0 0)) rfl
  rw [ho, hzz]
  try simp only [hh0]
  exact h
 try (rw [kpath]; cbv)
 try (rw [kversions]; cbv)
 try (rw [kexts]; cbv)
 try (rw [m1]; cbv)
 try (rw [kpath]; cbv)
 try (rw [kversions]; cbv)
 try (rw [kexts]; cbv)
 try (rw [m2]; cbv)
 try (rw [r1]; cbv)
 try (rw [show not true = false by rw [F.not]; rfl]; cbv)
 try (rw [kpath]; cbv)
 try (rw [qpath]; cbv)
 try (rw [show not true = false by rw [F.not]; rfl]; cbv)
 try (rw [kversions]; cbv)
 try (rw [qversions]; cbv)
 try (rw [show not true = false by rw [F.not]; rfl]; cbv)
 try (rw [kexts]; cbv)
 try (rw [qexts]; cbv)
 try (rw [show not true = false by rw [F.not]; rfl]; cbv)
 try (rw [n1]; cbv)
 try (rw [n2]; cbv)
 try (rw [n3]; cbv)
 try (rw [l1]; cbv)
 try (rw [r1]; cbv)
 try (rw [show not true = false by rw [F.not]; rfl]; cbv)
 try (rw [r2]; cbv)
 try (rw [r3]; cbv)
 try (rw [l2]; cbv)
 try (rw [l3]; cbv)
 try (rw [kpath]; cbv)
 try (rw [kversions]; cbv)
 try (rw [kexts]; cbv)
 try (rw [m2]; cbv)
 try (rw [r1]; cbv)
 try (rw [show not true = false by rw [F.not]; rfl]; cbv)
 try (rw [r3]; cbv)
 try (rw [l2]; cbv)
 try (rw [l3]; cbv)
 repeat' (first | (rw [kpath]; cbv) | (rw [qpath]; cbv) | (rw [kversions]; cbv) | (rw [qversions]; cbv) | (rw [kexts]; cbv) | (rw [qexts]; cbv) | (rw [m1]; cbv) | (rw [m2]; cbv) | (rw [r1]; cbv) | (rw [n1]; cbv) | (rw [n2]; cbv) | (rw [n3]; cbv) | (rw [r2]; cbv) | (rw [r3]; cbv) | (rw [l1]; cbv) | (rw [l2]; cbv) | (rw [l3]; cbv) | (rw [F.ne_f rfl]; cbv) | (rw [show not true = false by rw [F.not]; rfl]; cbv) | (rw [hQ]; cbv; exact congrArg some hr))
theorem ans45 : Answers Tb md 45 [(false, [.row [.int .i64, .row [.int .i64], .row [.int .i64], .bool]]), (false, [.row [.int .i64]]), (false, [.row [.int .i64, .row [.int .i64]]])] := answers_of (by
 intro vs h_
 obtain ⟨_, _, rfl, h1_, h_⟩ := fitL_cons h_
 cases fitL_nil h_
 obtain ⟨path, rfl, wpath⟩ := fit_row (fun _ => fitL_Box) h1_
 intro vs h_
 obtain ⟨versions, rfl, wversions⟩ := fitL_R h_
 intro vs h_
 obtain ⟨_, _, rfl, h1_, h_⟩ := fitL_cons h_
 cases fitL_nil h_
 obtain ⟨exts, rfl, wexts⟩ := fit_row (fun _ => fitL_Ext) h1_
 exact law45 path wpath versions wversions exts wexts)
end Go.Vm
