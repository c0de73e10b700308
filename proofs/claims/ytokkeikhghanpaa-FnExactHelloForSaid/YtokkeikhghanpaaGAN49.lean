/- What the law answers. -/
import Derived.Test.YtokkeikhghanpaaGATab
import Derived.Test.YtokkeikhghanpaaGAFA
import Derived.Test.YtokkeikhghanpaaGAFK
import Derived.Test.YtokkeikhghanpaaGAFL
import Derived.Test.YtokkeikhghanpaaGAFN
set_option maxHeartbeats 4000000
set_option maxRecDepth 10000
set_option linter.unusedVariables false
set_option linter.unusedSimpArgs false
namespace Go.Vm
theorem law49 (h : Hello) (wh : h.Fits) (path : List Box) (wpath : path.length ≤ 9223372036854775807 ∧ ∀ y ∈ path, y.Fits) :
  fix Tb md 49 [sHello (row fI h.versions) (row fExt h.exts) (.sp 0 0) (.sp 0 1), R (row fBox path) (.sp 1 0)] = some ⟨[B true], [], none⟩ := by
 generalize hr : (⟨_, [], none⟩ : Ret) = r
 obtain ⟨e1, he1⟩ := nm (row fI h.versions)
 obtain ⟨e2, he2⟩ := nm (row fExt h.exts)
 obtain ⟨e3, he3⟩ := nm (row fBox path)
 rw [← he1, ← he2, ← he3]
 obtain ⟨v1, hv1⟩ := nm (szHello h 1048576)
 have u1 : v1 ≤ 1048576 := by rw [hv1]; exact (szHello_Sz h).up (by decide)
 have s1 := fun q : 0 ≤ v1 => (szHello_Sz h).ok 1048576 (by decide) (hv1 ▸ q)
 obtain ⟨v2, hv2⟩ := nm (szL szBox path v1)
 have u2 : v2 ≤ 1048576 := by rw [hv2]; exact (Sz.list szBox_Sz path).up u1
 have s2 := fun q : 0 ≤ v2 => (Sz.list szBox_Sz path).ok v1 u1 (hv2 ▸ q)
 obtain ⟨w, hw⟩ := nm (hfV h path)
 obtain ⟨w1, hw1⟩ := nm (hfN h path)
 obtain ⟨w2, hw2⟩ := nm (hfOk h path)
 refine fix_fn2 (fn := ir49) tb_49 rfl rfl (by decide) rfl ?_; intro Q hQ; simp only [shutArgs, shutS, List.map_cons, List.map_nil, ir49, List.head?_nil, reduceCtorEq, if_false, sExt, sHello, sAnswer, sEdit, sDeal, sBox, sDialed, sKnown, shut_in (f := .sp 0 0) rfl, shut_in (f := .sp 0 1) rfl, shut_in (f := .sp 1 0) rfl]
 intro add sub mul arith eq ne lt le gt ge neg conv mn mx not beq len at' ln bd cut app allS isNil mks set o hP F ho
 have b1 : o 83 [sHello e1 e2 (.sp 0 0) (.sp 0 1), I 1048576] = some ⟨[I v1], [], none⟩ := by rw [ho, hv1, he1, he2]; exact ok83 h _ wh (by decide) (by decide) rfl rfl
 have b2 : 0 ≤ v1 → o 101 [R e3 (.sp 0 0), I v1] = some ⟨[I v2], [], none⟩ := by intro q; rw [ho, hv2, he3]; exact ok101 path _ wpath q u1 rfl
 cbv
 rw [b1]; cbv
 refine both (fun d1 => ?_) (fun d1 => ?_) <;> rw [d1] <;> cbv
 ·rw [hQ]; cbv; exact congrArg some hr
 have p1 : 0 ≤ v1 := by simp only [F.lt, decide_eq_false_iff_not] at d1; omega
 have th := s1 p1
 have thm := th.mid
 have rh := th
 unfold Hello.Small at rh
 rw [b2 p1]; cbv
 refine both (fun d2 => ?_) (fun d2 => ?_) <;> rw [d2] <;> cbv
 ·rw [hQ]; cbv; exact congrArg some hr
 have p2 : 0 ≤ v2 := by simp only [F.lt, decide_eq_false_iff_not] at d2; omega
 have tpath := s2 p2
 have tpathm : path.length ≤ 1073741824 ∧ ∀ y ∈ path, y.Mid := ⟨Nat.le_trans tpath.1 (by decide), fun y hy => (tpath.2 y hy).mid⟩
 have rpath := tpath
 have kh : o 85 [sHello e1 e2 (.sp 0 0) (.sp 0 1)] = some ⟨[sHello e1 e2 (.ow false) (.ow false)], [], none⟩ := by rw [ho, he1, he2]; exact ok85 h thm rfl rfl
 have qh : o 78 [sHello e1 e2 (.sp 0 0) (.sp 0 1), sHello e1 e2 (.sp 1 0) (.sp 1 1)] = some ⟨[B true], [], none⟩ := by rw [ho, he1, he2]; exact ok78 h thm rfl rfl  rfl rfl
 have kpath : o 103 [R e3 (.sp 0 0)] = some ⟨[R e3 (.ow false)], [], none⟩ := by rw [ho, he3]; exact ok103 path tpathm rfl
 have qpath : o 105 [R e3 (.sp 0 0), R e3 (.sp 1 0)] = some ⟨[B true], [], none⟩ := by rw [ho, he3]; exact ok105 path tpathm rfl  rfl
 have wm : w.Mid := by rw [hw]; exact hfV_mid thm
 obtain ⟨g0, hg0⟩ := nm (row fI w.versions)
 obtain ⟨h0, hh0⟩ := nm (row fI ((wHello w 1).versions))
 obtain ⟨g1, hg1⟩ := nm (row fExt w.exts)
 obtain ⟨h1, hh1⟩ := nm (row fExt ((wHello w 1).exts))
 obtain ⟨zz, hzz⟩ := nm (1 + (nHello w : Int))
 have lr : Lim 1 (nHello w) := Lim.of1 (by have := nHello_mid wm; omega)
 have l2 : lt zz 0 = false := by rw [F.lt, hzz]; simp; omega
 have l3 : ne zz zz = false := F.ne_f rfl
 have a0 : AtK 1 1 0 := AtK.zero
 have y0 := nHello_small th
 have y1 := cBoxS_small tpath
 have lk : Lim 1 (0 + nHello h + cBoxS path) := Lim.of1 (by omega)
 obtain ⟨z1, hz1⟩ := nm (1 + (nHello h : Int))
 have a1 : AtK z1 1 (0 + nHello h) := hz1 ▸ a0.plus
 have v1m : Lim 1 (nHello h) := a0.lim lk (by omega)
 obtain ⟨x0_0, hx0_0⟩ := nm (row fI ((wHello h 1).versions))
 obtain ⟨x0_1, hx0_1⟩ := nm (row fExt ((wHello h 1).exts))
 have n1 : o 1081 [sHello e1 e2 (.mp 0) (.mp 1), I 1] = some ⟨[I z1], [.row () x0_0, .row () x0_1], none⟩ := by rw [ho, hz1, he1, he2, hx0_0, hx0_1]; exact ok1081 h _ v1m thm
 obtain ⟨z2, hz2⟩ := nm (z1 + (cBoxS path : Int))
 have a2 : AtK z2 1 (0 + nHello h + cBoxS path) := hz2 ▸ a1.plus
 have v2m : Lim z1 (cBoxS path) := a1.lim lk (by omega)
 obtain ⟨x1_0, hx1_0⟩ := nm (row fBox (mBoxS path z1))
 have n2 : o 1172 [R e3 (.mp 0), I z1] = some ⟨[I z2], [.row () x1_0], none⟩ := by rw [ho, hz2, he3, hx1_0]; exact ok1172 _ _ v2m (Nat.le_trans tpathm.1 (by decide)) (fun y hy => Nat.le_trans ((tpathm.2 y hy).1) (by decide)) (fun y hy => Nat.le_trans ((tpathm.2 y hy).2) (by decide))
 have l1 : lt z2 0 = false := by rw [F.lt]; have := a2.same; simp; omega
 have hs : (fix Tb md 208 [sHello (row fI h.versions) (row fExt h.exts) (.sp 0 0) (.sp 0 1), R (row fBox path) (.sp 1 0)] = some ⟨[sHello (row fI w.versions) (row fExt w.exts) (.ow false) (.ow false), I w1, B w2], [], none⟩) ∨ (w.exts = [] ∧ fix Tb md 208 [sHello (row fI h.versions) (row fExt h.exts) (.sp 0 0) (.sp 0 1), R (row fBox path) (.sp 1 0)] = some ⟨[sHello (row fI w.versions) [] (.ow false) .nl, I w1, B w2], [], none⟩) ∨ (w.versions = [] ∧ w.exts = [] ∧ fix Tb md 208 [sHello (row fI h.versions) (row fExt h.exts) (.sp 0 0) (.sp 0 1), R (row fBox path) (.sp 1 0)] = some ⟨[sHello [] [] .nl .nl, I w1, B w2], [], none⟩) := by rw [hw, hw1, hw2]; exact ok208t h path thm tpathm.1 tpathm.2 rfl rfl rfl
 have hi : (fix Tb md 184 [sHello (row fI h.versions) (row fExt h.exts) (.sp 0 0) (.sp 0 1), R (row fBox path) (.sp 1 0)] = some ⟨[sHello (row fI w.versions) (row fExt w.exts) (.ow false) (.ow false), I w1, B w2], [], none⟩) ∨ (w.exts = [] ∧ fix Tb md 184 [sHello (row fI h.versions) (row fExt h.exts) (.sp 0 0) (.sp 0 1), R (row fBox path) (.sp 1 0)] = some ⟨[sHello (row fI w.versions) [] (.ow false) .nl, I w1, B w2], [], none⟩) ∨ (w.versions = [] ∧ w.exts = [] ∧ fix Tb md 184 [sHello (row fI h.versions) (row fExt h.exts) (.sp 0 0) (.sp 0 1), R (row fBox path) (.sp 1 0)] = some ⟨[sHello [] [] .nl .nl, I w1, B w2], [], none⟩) := by rw [hw, hw1, hw2]; exact ok184t h path thm tpathm.1 tpathm.2 rfl rfl rfl
 rcases hs with hs | ⟨ns1, hs⟩ | ⟨ns0, ns1, hs⟩
 ·rcases hi with hi | ⟨ni1, hi⟩ | ⟨ni0, ni1, hi⟩
  ·have m1 : o 208 [sHello e1 e2 (.sp 0 0) (.sp 0 1), R e3 (.sp 1 0)] = some ⟨[sHello g0 g1 (.ow false) (.ow false), I w1, B w2], [], none⟩ := by rw [ho, he1, he2, he3]; simp only [hg0, hg1]; exact hs
   have m2 : o 184 [sHello e1 e2 (.sp 0 0) (.sp 0 1), R e3 (.sp 1 0)] = some ⟨[sHello g0 g1 (.ow false) (.ow false), I w1, B w2], [], none⟩ := by rw [ho, he1, he2, he3]; simp only [hg0, hg1]; exact hi
   have r1 : o 78 [sHello g0 g1 (.sp 0 0) (.sp 0 1), sHello g0 g1 (.sp 1 0) (.sp 1 1)] = some ⟨[B true], [], none⟩ := by
    have h := ok78 w wm (f0 := (.sp 0 0)) (g0 := (.sp 1 0)) (f1 := (.sp 0 1)) (g1 := (.sp 1 1)) rfl rfl rfl rfl
    rw [ho]
    try simp only [hg0, hg1]
    exact h
   have r2 : o 1081 [sHello g0 g1 (.mp 0) (.mp 1), I 1] = some ⟨[I zz], [.row () h0, .row () h1], none⟩ := by
    have h := ok1081 w 1 lr wm
    rw [ho, hzz]
    try simp only [hg0, hg1, hh0, hh1]
    exact h
   have r3 : o 82 [sHello h0 h1 (.sp 0 0) (.sp 0 1), I 1] = some ⟨[I zz], [], none⟩ := by
    have h := ok82 w 1 lr wm (f0 := (.sp 0 0)) (f1 := (.sp 0 1)) rfl rfl
    rw [ho, hzz]
    try simp only [hh0, hh1]
    exact h
   try (rw [kh]; cbv)
   try (rw [kpath]; cbv)
   try (rw [m1]; cbv)
   try (rw [kh]; cbv)
   try (rw [kpath]; cbv)
   try (rw [m2]; cbv)
   try (rw [r1]; cbv)
   try (rw [show not true = false by rw [F.not]; rfl]; cbv)
   try (rw [F.ne_f rfl]; cbv)
   try (rw [show not (beq w2 w2) = false by rw [F.not, F.beq]; simp]; cbv)
   try (rw [kh]; cbv)
   try (rw [qh]; cbv)
   try (rw [show not true = false by rw [F.not]; rfl]; cbv)
   try (rw [kpath]; cbv)
   try (rw [qpath]; cbv)
   try (rw [show not true = false by rw [F.not]; rfl]; cbv)
   try (rw [n1]; cbv)
   try (rw [n2]; cbv)
   try (rw [l1]; cbv)
   try (rw [r1]; cbv)
   try (rw [show not true = false by rw [F.not]; rfl]; cbv)
   try (rw [F.ne_f rfl]; cbv)
   try (rw [show not (beq w2 w2) = false by rw [F.not, F.beq]; simp]; cbv)
   try (rw [r2]; cbv)
   try (rw [r3]; cbv)
   try (rw [l2]; cbv)
   try (rw [l3]; cbv)
   try (rw [kh]; cbv)
   try (rw [kpath]; cbv)
   try (rw [m2]; cbv)
   try (rw [r1]; cbv)
   try (rw [show not true = false by rw [F.not]; rfl]; cbv)
   try (rw [F.ne_f rfl]; cbv)
   try (rw [show not (beq w2 w2) = false by rw [F.not, F.beq]; simp]; cbv)
   try (rw [r3]; cbv)
   try (rw [l2]; cbv)
   try (rw [l3]; cbv)
   repeat' (first | (rw [kh]; cbv) | (rw [qh]; cbv) | (rw [kpath]; cbv) | (rw [qpath]; cbv) | (rw [m1]; cbv) | (rw [m2]; cbv) | (rw [r1]; cbv) | (rw [n1]; cbv) | (rw [n2]; cbv) | (rw [r2]; cbv) | (rw [r3]; cbv) | (rw [l1]; cbv) | (rw [l2]; cbv) | (rw [l3]; cbv) | (rw [F.ne_f rfl]; cbv) | (rw [show not (beq w2 w2) = false by rw [F.not, F.beq]; simp]; cbv) | (rw [show not true = false by rw [F.not]; rfl]; cbv) | (rw [hQ]; cbv; exact congrArg some hr))
  ·have m1 : o 208 [sHello e1 e2 (.sp 0 0) (.sp 0 1), R e3 (.sp 1 0)] = some ⟨[sHello g0 g1 (.ow false) (.ow false), I w1, B w2], [], none⟩ := by rw [ho, he1, he2, he3]; simp only [hg0, hg1]; exact hs
   have m2 : o 184 [sHello e1 e2 (.sp 0 0) (.sp 0 1), R e3 (.sp 1 0)] = some ⟨[sHello g0 [] (.ow false) .nl, I w1, B w2], [], none⟩ := by rw [ho, he1, he2, he3]; simp only [hg0]; exact hi
   have r1 : o 78 [sHello g0 [] (.sp 0 0) .nl, sHello g0 g1 (.sp 1 0) (.sp 1 1)] = some ⟨[B true], [], none⟩ := by
    have h := ok78 w wm (f0 := (.sp 0 0)) (g0 := (.sp 1 0)) (f1 := .nl) (g1 := (.sp 1 1)) rfl rfl rfl rfl
    try simp only [ni1] at h
    rw [ho]
    try simp only [hg0, hg1, ni1]
    exact h
   have r2 : o 1081 [sHello g0 [] (.mp 0) .nl, I 1] = some ⟨[I zz], [.row () h0], none⟩ := by
    have h := ok1081_on w 1 lr wm ni1
    try simp only [wHello, mI, mExtS, ni1] at h
    rw [ho, hzz]
    try simp only [hg0, hh0, wHello, mI, mExtS, ni1]
    exact h
   have r3 : o 82 [sHello h0 [] (.sp 0 0) .nl, I 1] = some ⟨[I zz], [], none⟩ := by
    have h := ok82 w 1 lr wm (f0 := (.sp 0 0)) (f1 := .nl) rfl rfl
    try simp only [wHello, mI, mExtS, ni1] at h
    rw [ho, hzz]
    try simp only [hh0, wHello, mI, mExtS, ni1]
    exact h
   try (rw [kh]; cbv)
   try (rw [kpath]; cbv)
   try (rw [m1]; cbv)
   try (rw [kh]; cbv)
   try (rw [kpath]; cbv)
   try (rw [m2]; cbv)
   try (rw [r1]; cbv)
   try (rw [show not true = false by rw [F.not]; rfl]; cbv)
   try (rw [F.ne_f rfl]; cbv)
   try (rw [show not (beq w2 w2) = false by rw [F.not, F.beq]; simp]; cbv)
   try (rw [kh]; cbv)
   try (rw [qh]; cbv)
   try (rw [show not true = false by rw [F.not]; rfl]; cbv)
   try (rw [kpath]; cbv)
   try (rw [qpath]; cbv)
   try (rw [show not true = false by rw [F.not]; rfl]; cbv)
   try (rw [n1]; cbv)
   try (rw [n2]; cbv)
   try (rw [l1]; cbv)
   try (rw [r1]; cbv)
   try (rw [show not true = false by rw [F.not]; rfl]; cbv)
   try (rw [F.ne_f rfl]; cbv)
   try (rw [show not (beq w2 w2) = false by rw [F.not, F.beq]; simp]; cbv)
   try (rw [r2]; cbv)
   try (rw [r3]; cbv)
   try (rw [l2]; cbv)
   try (rw [l3]; cbv)
   try (rw [kh]; cbv)
   try (rw [kpath]; cbv)
   try (rw [m2]; cbv)
   try (rw [r1]; cbv)
   try (rw [show not true = false by rw [F.not]; rfl]; cbv)
   try (rw [F.ne_f rfl]; cbv)
   try (rw [show not (beq w2 w2) = false by rw [F.not, F.beq]; simp]; cbv)
   try (rw [r3]; cbv)
   try (rw [l2]; cbv)
   try (rw [l3]; cbv)
   repeat' (first | (rw [kh]; cbv) | (rw [qh]; cbv) | (rw [kpath]; cbv) | (rw [qpath]; cbv) | (rw [m1]; cbv) | (rw [m2]; cbv) | (rw [r1]; cbv) | (rw [n1]; cbv) | (rw [n2]; cbv) | (rw [r2]; cbv) | (rw [r3]; cbv) | (rw [l1]; cbv) | (rw [l2]; cbv) | (rw [l3]; cbv) | (rw [F.ne_f rfl]; cbv) | (rw [show not (beq w2 w2) = false by rw [F.not, F.beq]; simp]; cbv) | (rw [show not true = false by rw [F.not]; rfl]; cbv) | (rw [hQ]; cbv; exact congrArg some hr))
  ·have m1 : o 208 [sHello e1 e2 (.sp 0 0) (.sp 0 1), R e3 (.sp 1 0)] = some ⟨[sHello g0 g1 (.ow false) (.ow false), I w1, B w2], [], none⟩ := by rw [ho, he1, he2, he3]; simp only [hg0, hg1]; exact hs
   have m2 : o 184 [sHello e1 e2 (.sp 0 0) (.sp 0 1), R e3 (.sp 1 0)] = some ⟨[sHello [] [] .nl .nl, I w1, B w2], [], none⟩ := by rw [ho, he1, he2, he3]; exact hi
   have r1 : o 78 [sHello [] [] .nl .nl, sHello g0 g1 (.sp 1 0) (.sp 1 1)] = some ⟨[B true], [], none⟩ := by
    have h := ok78 w wm (f0 := .nl) (g0 := (.sp 1 0)) (f1 := .nl) (g1 := (.sp 1 1)) rfl rfl rfl rfl
    try simp only [ni0, ni1] at h
    rw [ho]
    try simp only [hg0, hg1, ni0, ni1]
    exact h
   have r2 : o 1081 [sHello [] [] .nl .nl, I 1] = some ⟨[I zz], [], none⟩ := by
    have h := ok1081_nn w 1 lr wm ni0 ni1
    try simp only [wHello, mI, mExtS, ni0, ni1] at h
    rw [ho, hzz]
    try simp only [wHello, mI, mExtS, ni0, ni1]
    exact h
   have r3 : o 82 [sHello [] [] .nl .nl, I 1] = some ⟨[I zz], [], none⟩ := by
    have h := ok82 w 1 lr wm (f0 := .nl) (f1 := .nl) rfl rfl
    try simp only [wHello, mI, mExtS, ni0, ni1] at h
    rw [ho, hzz]
    try simp only [wHello, mI, mExtS, ni0, ni1]
    exact h
   try (rw [kh]; cbv)
   try (rw [kpath]; cbv)
   try (rw [m1]; cbv)
   try (rw [kh]; cbv)
   try (rw [kpath]; cbv)
   try (rw [m2]; cbv)
   try (rw [r1]; cbv)
   try (rw [show not true = false by rw [F.not]; rfl]; cbv)
   try (rw [F.ne_f rfl]; cbv)
   try (rw [show not (beq w2 w2) = false by rw [F.not, F.beq]; simp]; cbv)
   try (rw [kh]; cbv)
   try (rw [qh]; cbv)
   try (rw [show not true = false by rw [F.not]; rfl]; cbv)
   try (rw [kpath]; cbv)
   try (rw [qpath]; cbv)
   try (rw [show not true = false by rw [F.not]; rfl]; cbv)
   try (rw [n1]; cbv)
   try (rw [n2]; cbv)
   try (rw [l1]; cbv)
   try (rw [r1]; cbv)
   try (rw [show not true = false by rw [F.not]; rfl]; cbv)
   try (rw [F.ne_f rfl]; cbv)
   try (rw [show not (beq w2 w2) = false by rw [F.not, F.beq]; simp]; cbv)
   try (rw [r2]; cbv)
   try (rw [r3]; cbv)
   try (rw [l2]; cbv)
   try (rw [l3]; cbv)
   try (rw [kh]; cbv)
   try (rw [kpath]; cbv)
   try (rw [m2]; cbv)
   try (rw [r1]; cbv)
   try (rw [show not true = false by rw [F.not]; rfl]; cbv)
   try (rw [F.ne_f rfl]; cbv)
   try (rw [show not (beq w2 w2) = false by rw [F.not, F.beq]; simp]; cbv)
   try (rw [r3]; cbv)
   try (rw [l2]; cbv)
   try (rw [l3]; cbv)
   repeat' (first | (rw [kh]; cbv) | (rw [qh]; cbv) | (rw [kpath]; cbv) | (rw [qpath]; cbv) | (rw [m1]; cbv) | (rw [m2]; cbv) | (rw [r1]; cbv) | (rw [n1]; cbv) | (rw [n2]; cbv) | (rw [r2]; cbv) | (rw [r3]; cbv) | (rw [l1]; cbv) | (rw [l2]; cbv) | (rw [l3]; cbv) | (rw [F.ne_f rfl]; cbv) | (rw [show not (beq w2 w2) = false by rw [F.not, F.beq]; simp]; cbv) | (rw [show not true = false by rw [F.not]; rfl]; cbv) | (rw [hQ]; cbv; exact congrArg some hr))
 ·rcases hi with hi | ⟨ni1, hi⟩ | ⟨ni0, ni1, hi⟩
  ·have m1 : o 208 [sHello e1 e2 (.sp 0 0) (.sp 0 1), R e3 (.sp 1 0)] = some ⟨[sHello g0 [] (.ow false) .nl, I w1, B w2], [], none⟩ := by rw [ho, he1, he2, he3]; simp only [hg0]; exact hs
   have m2 : o 184 [sHello e1 e2 (.sp 0 0) (.sp 0 1), R e3 (.sp 1 0)] = some ⟨[sHello g0 g1 (.ow false) (.ow false), I w1, B w2], [], none⟩ := by rw [ho, he1, he2, he3]; simp only [hg0, hg1]; exact hi
   have r1 : o 78 [sHello g0 g1 (.sp 0 0) (.sp 0 1), sHello g0 [] (.sp 1 0) .nl] = some ⟨[B true], [], none⟩ := by
    have h := ok78 w wm (f0 := (.sp 0 0)) (g0 := (.sp 1 0)) (f1 := (.sp 0 1)) (g1 := .nl) rfl rfl rfl rfl
    try simp only [ns1] at h
    rw [ho]
    try simp only [hg0, hg1, ns1]
    exact h
   have r2 : o 1081 [sHello g0 g1 (.mp 0) (.mp 1), I 1] = some ⟨[I zz], [.row () h0, .row () h1], none⟩ := by
    have h := ok1081 w 1 lr wm
    rw [ho, hzz]
    try simp only [hg0, hg1, hh0, hh1]
    exact h
   have r3 : o 82 [sHello h0 h1 (.sp 0 0) (.sp 0 1), I 1] = some ⟨[I zz], [], none⟩ := by
    have h := ok82 w 1 lr wm (f0 := (.sp 0 0)) (f1 := (.sp 0 1)) rfl rfl
    rw [ho, hzz]
    try simp only [hh0, hh1]
    exact h
   try (rw [kh]; cbv)
   try (rw [kpath]; cbv)
   try (rw [m1]; cbv)
   try (rw [kh]; cbv)
   try (rw [kpath]; cbv)
   try (rw [m2]; cbv)
   try (rw [r1]; cbv)
   try (rw [show not true = false by rw [F.not]; rfl]; cbv)
   try (rw [F.ne_f rfl]; cbv)
   try (rw [show not (beq w2 w2) = false by rw [F.not, F.beq]; simp]; cbv)
   try (rw [kh]; cbv)
   try (rw [qh]; cbv)
   try (rw [show not true = false by rw [F.not]; rfl]; cbv)
   try (rw [kpath]; cbv)
   try (rw [qpath]; cbv)
   try (rw [show not true = false by rw [F.not]; rfl]; cbv)
   try (rw [n1]; cbv)
   try (rw [n2]; cbv)
   try (rw [l1]; cbv)
   try (rw [r1]; cbv)
   try (rw [show not true = false by rw [F.not]; rfl]; cbv)
   try (rw [F.ne_f rfl]; cbv)
   try (rw [show not (beq w2 w2) = false by rw [F.not, F.beq]; simp]; cbv)
   try (rw [r2]; cbv)
   try (rw [r3]; cbv)
   try (rw [l2]; cbv)
   try (rw [l3]; cbv)
   try (rw [kh]; cbv)
   try (rw [kpath]; cbv)
   try (rw [m2]; cbv)
   try (rw [r1]; cbv)
   try (rw [show not true = false by rw [F.not]; rfl]; cbv)
   try (rw [F.ne_f rfl]; cbv)
   try (rw [show not (beq w2 w2) = false by rw [F.not, F.beq]; simp]; cbv)
   try (rw [r3]; cbv)
   try (rw [l2]; cbv)
   try (rw [l3]; cbv)
   repeat' (first | (rw [kh]; cbv) | (rw [qh]; cbv) | (rw [kpath]; cbv) | (rw [qpath]; cbv) | (rw [m1]; cbv) | (rw [m2]; cbv) | (rw [r1]; cbv) | (rw [n1]; cbv) | (rw [n2]; cbv) | (rw [r2]; cbv) | (rw [r3]; cbv) | (rw [l1]; cbv) | (rw [l2]; cbv) | (rw [l3]; cbv) | (rw [F.ne_f rfl]; cbv) | (rw [show not (beq w2 w2) = false by rw [F.not, F.beq]; simp]; cbv) | (rw [show not true = false by rw [F.not]; rfl]; cbv) | (rw [hQ]; cbv; exact congrArg some hr))
  ·have m1 : o 208 [sHello e1 e2 (.sp 0 0) (.sp 0 1), R e3 (.sp 1 0)] = some ⟨[sHello g0 [] (.ow false) .nl, I w1, B w2], [], none⟩ := by rw [ho, he1, he2, he3]; simp only [hg0]; exact hs
   have m2 : o 184 [sHello e1 e2 (.sp 0 0) (.sp 0 1), R e3 (.sp 1 0)] = some ⟨[sHello g0 [] (.ow false) .nl, I w1, B w2], [], none⟩ := by rw [ho, he1, he2, he3]; simp only [hg0]; exact hi
   have r1 : o 78 [sHello g0 [] (.sp 0 0) .nl, sHello g0 [] (.sp 1 0) .nl] = some ⟨[B true], [], none⟩ := by
    have h := ok78 w wm (f0 := (.sp 0 0)) (g0 := (.sp 1 0)) (f1 := .nl) (g1 := .nl) rfl rfl rfl rfl
    try simp only [ni1] at h
    rw [ho]
    try simp only [hg0, hg1, ni1]
    exact h
   have r2 : o 1081 [sHello g0 [] (.mp 0) .nl, I 1] = some ⟨[I zz], [.row () h0], none⟩ := by
    have h := ok1081_on w 1 lr wm ni1
    try simp only [wHello, mI, mExtS, ni1] at h
    rw [ho, hzz]
    try simp only [hg0, hh0, wHello, mI, mExtS, ni1]
    exact h
   have r3 : o 82 [sHello h0 [] (.sp 0 0) .nl, I 1] = some ⟨[I zz], [], none⟩ := by
    have h := ok82 w 1 lr wm (f0 := (.sp 0 0)) (f1 := .nl) rfl rfl
    try simp only [wHello, mI, mExtS, ni1] at h
    rw [ho, hzz]
    try simp only [hh0, wHello, mI, mExtS, ni1]
    exact h
   try (rw [kh]; cbv)
   try (rw [kpath]; cbv)
   try (rw [m1]; cbv)
   try (rw [kh]; cbv)
   try (rw [kpath]; cbv)
   try (rw [m2]; cbv)
   try (rw [r1]; cbv)
   try (rw [show not true = false by rw [F.not]; rfl]; cbv)
   try (rw [F.ne_f rfl]; cbv)
   try (rw [show not (beq w2 w2) = false by rw [F.not, F.beq]; simp]; cbv)
   try (rw [kh]; cbv)
   try (rw [qh]; cbv)
   try (rw [show not true = false by rw [F.not]; rfl]; cbv)
   try (rw [kpath]; cbv)
   try (rw [qpath]; cbv)
   try (rw [show not true = false by rw [F.not]; rfl]; cbv)
   try (rw [n1]; cbv)
   try (rw [n2]; cbv)
   try (rw [l1]; cbv)
   try (rw [r1]; cbv)
   try (rw [show not true = false by rw [F.not]; rfl]; cbv)
   try (rw [F.ne_f rfl]; cbv)
   try (rw [show not (beq w2 w2) = false by rw [F.not, F.beq]; simp]; cbv)
   try (rw [r2]; cbv)
   try (rw [r3]; cbv)
   try (rw [l2]; cbv)
   try (rw [l3]; cbv)
   try (rw [kh]; cbv)
   try (rw [kpath]; cbv)
   try (rw [m2]; cbv)
   try (rw [r1]; cbv)
   try (rw [show not true = false by rw [F.not]; rfl]; cbv)
   try (rw [F.ne_f rfl]; cbv)
   try (rw [show not (beq w2 w2) = false by rw [F.not, F.beq]; simp]; cbv)
   try (rw [r3]; cbv)
   try (rw [l2]; cbv)
   try (rw [l3]; cbv)
   repeat' (first | (rw [kh]; cbv) | (rw [qh]; cbv) | (rw [kpath]; cbv) | (rw [qpath]; cbv) | (rw [m1]; cbv) | (rw [m2]; cbv) | (rw [r1]; cbv) | (rw [n1]; cbv) | (rw [n2]; cbv) | (rw [r2]; cbv) | (rw [r3]; cbv) | (rw [l1]; cbv) | (rw [l2]; cbv) | (rw [l3]; cbv) | (rw [F.ne_f rfl]; cbv) | (rw [show not (beq w2 w2) = false by rw [F.not, F.beq]; simp]; cbv) | (rw [show not true = false by rw [F.not]; rfl]; cbv) | (rw [hQ]; cbv; exact congrArg some hr))
  ·have m1 : o 208 [sHello e1 e2 (.sp 0 0) (.sp 0 1), R e3 (.sp 1 0)] = some ⟨[sHello g0 [] (.ow false) .nl, I w1, B w2], [], none⟩ := by rw [ho, he1, he2, he3]; simp only [hg0]; exact hs
   have m2 : o 184 [sHello e1 e2 (.sp 0 0) (.sp 0 1), R e3 (.sp 1 0)] = some ⟨[sHello [] [] .nl .nl, I w1, B w2], [], none⟩ := by rw [ho, he1, he2, he3]; exact hi
   have r1 : o 78 [sHello [] [] .nl .nl, sHello g0 [] (.sp 1 0) .nl] = some ⟨[B true], [], none⟩ := by
    have h := ok78 w wm (f0 := .nl) (g0 := (.sp 1 0)) (f1 := .nl) (g1 := .nl) rfl rfl rfl rfl
    try simp only [ni0, ni1] at h
    rw [ho]
    try simp only [hg0, hg1, ni0, ni1]
    exact h
   have r2 : o 1081 [sHello [] [] .nl .nl, I 1] = some ⟨[I zz], [], none⟩ := by
    have h := ok1081_nn w 1 lr wm ni0 ni1
    try simp only [wHello, mI, mExtS, ni0, ni1] at h
    rw [ho, hzz]
    try simp only [wHello, mI, mExtS, ni0, ni1]
    exact h
   have r3 : o 82 [sHello [] [] .nl .nl, I 1] = some ⟨[I zz], [], none⟩ := by
    have h := ok82 w 1 lr wm (f0 := .nl) (f1 := .nl) rfl rfl
    try simp only [wHello, mI, mExtS, ni0, ni1] at h
    rw [ho, hzz]
    try simp only [wHello, mI, mExtS, ni0, ni1]
    exact h
   try (rw [kh]; cbv)
   try (rw [kpath]; cbv)
   try (rw [m1]; cbv)
   try (rw [kh]; cbv)
   try (rw [kpath]; cbv)
   try (rw [m2]; cbv)
   try (rw [r1]; cbv)
   try (rw [show not true = false by rw [F.not]; rfl]; cbv)
   try (rw [F.ne_f rfl]; cbv)
   try (rw [show not (beq w2 w2) = false by rw [F.not, F.beq]; simp]; cbv)
   try (rw [kh]; cbv)
   try (rw [qh]; cbv)
   try (rw [show not true = false by rw [F.not]; rfl]; cbv)
   try (rw [kpath]; cbv)
   try (rw [qpath]; cbv)
   try (rw [show not true = false by rw [F.not]; rfl]; cbv)
   try (rw [n1]; cbv)
   try (rw [n2]; cbv)
   try (rw [l1]; cbv)
   try (rw [r1]; cbv)
   try (rw [show not true = false by rw [F.not]; rfl]; cbv)
   try (rw [F.ne_f rfl]; cbv)
   try (rw [show not (beq w2 w2) = false by rw [F.not, F.beq]; simp]; cbv)
   try (rw [r2]; cbv)
   try (rw [r3]; cbv)
   try (rw [l2]; cbv)
   try (rw [l3]; cbv)
   try (rw [kh]; cbv)
   try (rw [kpath]; cbv)
   try (rw [m2]; cbv)
   try (rw [r1]; cbv)
   try (rw [show not true = false by rw [F.not]; rfl]; cbv)
   try (rw [F.ne_f rfl]; cbv)
   try (rw [show not (beq w2 w2) = false by rw [F.not, F.beq]; simp]; cbv)
   try (rw [r3]; cbv)
   try (rw [l2]; cbv)
   try (rw [l3]; cbv)
   repeat' (first | (rw [kh]; cbv) | (rw [qh]; cbv) | (rw [kpath]; cbv) | (rw [qpath]; cbv) | (rw [m1]; cbv) | (rw [m2]; cbv) | (rw [r1]; cbv) | (rw [n1]; cbv) | (rw [n2]; cbv) | (rw [r2]; cbv) | (rw [r3]; cbv) | (rw [l1]; cbv) | (rw [l2]; cbv) | (rw [l3]; cbv) | (rw [F.ne_f rfl]; cbv) | (rw [show not (beq w2 w2) = false by rw [F.not, F.beq]; simp]; cbv) | (rw [show not true = false by rw [F.not]; rfl]; cbv) | (rw [hQ]; cbv; exact congrArg some hr))
 ·rcases hi with hi | ⟨ni1, hi⟩ | ⟨ni0, ni1, hi⟩
  ·have m1 : o 208 [sHello e1 e2 (.sp 0 0) (.sp 0 1), R e3 (.sp 1 0)] = some ⟨[sHello [] [] .nl .nl, I w1, B w2], [], none⟩ := by rw [ho, he1, he2, he3]; exact hs
   have m2 : o 184 [sHello e1 e2 (.sp 0 0) (.sp 0 1), R e3 (.sp 1 0)] = some ⟨[sHello g0 g1 (.ow false) (.ow false), I w1, B w2], [], none⟩ := by rw [ho, he1, he2, he3]; simp only [hg0, hg1]; exact hi
   have r1 : o 78 [sHello g0 g1 (.sp 0 0) (.sp 0 1), sHello [] [] .nl .nl] = some ⟨[B true], [], none⟩ := by
    have h := ok78 w wm (f0 := (.sp 0 0)) (g0 := .nl) (f1 := (.sp 0 1)) (g1 := .nl) rfl rfl rfl rfl
    try simp only [ns0, ns1] at h
    rw [ho]
    try simp only [hg0, hg1, ns0, ns1]
    exact h
   have r2 : o 1081 [sHello g0 g1 (.mp 0) (.mp 1), I 1] = some ⟨[I zz], [.row () h0, .row () h1], none⟩ := by
    have h := ok1081 w 1 lr wm
    rw [ho, hzz]
    try simp only [hg0, hg1, hh0, hh1]
    exact h
   have r3 : o 82 [sHello h0 h1 (.sp 0 0) (.sp 0 1), I 1] = some ⟨[I zz], [], none⟩ := by
    have h := ok82 w 1 lr wm (f0 := (.sp 0 0)) (f1 := (.sp 0 1)) rfl rfl
    rw [ho, hzz]
    try simp only [hh0, hh1]
    exact h
   try (rw [kh]; cbv)
   try (rw [kpath]; cbv)
   try (rw [m1]; cbv)
   try (rw [kh]; cbv)
   try (rw [kpath]; cbv)
   try (rw [m2]; cbv)
   try (rw [r1]; cbv)
   try (rw [show not true = false by rw [F.not]; rfl]; cbv)
   try (rw [F.ne_f rfl]; cbv)
   try (rw [show not (beq w2 w2) = false by rw [F.not, F.beq]; simp]; cbv)
   try (rw [kh]; cbv)
   try (rw [qh]; cbv)
   try (rw [show not true = false by rw [F.not]; rfl]; cbv)
   try (rw [kpath]; cbv)
   try (rw [qpath]; cbv)
   try (rw [show not true = false by rw [F.not]; rfl]; cbv)
   try (rw [n1]; cbv)
   try (rw [n2]; cbv)
   try (rw [l1]; cbv)
   try (rw [r1]; cbv)
   try (rw [show not true = false by rw [F.not]; rfl]; cbv)
   try (rw [F.ne_f rfl]; cbv)
   try (rw [show not (beq w2 w2) = false by rw [F.not, F.beq]; simp]; cbv)
   try (rw [r2]; cbv)
   try (rw [r3]; cbv)
   try (rw [l2]; cbv)
   try (rw [l3]; cbv)
   try (rw [kh]; cbv)
   try (rw [kpath]; cbv)
   try (rw [m2]; cbv)
   try (rw [r1]; cbv)
   try (rw [show not true = false by rw [F.not]; rfl]; cbv)
   try (rw [F.ne_f rfl]; cbv)
   try (rw [show not (beq w2 w2) = false by rw [F.not, F.beq]; simp]; cbv)
   try (rw [r3]; cbv)
   try (rw [l2]; cbv)
   try (rw [l3]; cbv)
   repeat' (first | (rw [kh]; cbv) | (rw [qh]; cbv) | (rw [kpath]; cbv) | (rw [qpath]; cbv) | (rw [m1]; cbv) | (rw [m2]; cbv) | (rw [r1]; cbv) | (rw [n1]; cbv) | (rw [n2]; cbv) | (rw [r2]; cbv) | (rw [r3]; cbv) | (rw [l1]; cbv) | (rw [l2]; cbv) | (rw [l3]; cbv) | (rw [F.ne_f rfl]; cbv) | (rw [show not (beq w2 w2) = false by rw [F.not, F.beq]; simp]; cbv) | (rw [show not true = false by rw [F.not]; rfl]; cbv) | (rw [hQ]; cbv; exact congrArg some hr))
  ·have m1 : o 208 [sHello e1 e2 (.sp 0 0) (.sp 0 1), R e3 (.sp 1 0)] = some ⟨[sHello [] [] .nl .nl, I w1, B w2], [], none⟩ := by rw [ho, he1, he2, he3]; exact hs
   have m2 : o 184 [sHello e1 e2 (.sp 0 0) (.sp 0 1), R e3 (.sp 1 0)] = some ⟨[sHello g0 [] (.ow false) .nl, I w1, B w2], [], none⟩ := by rw [ho, he1, he2, he3]; simp only [hg0]; exact hi
   have r1 : o 78 [sHello g0 [] (.sp 0 0) .nl, sHello [] [] .nl .nl] = some ⟨[B true], [], none⟩ := by
    have h := ok78 w wm (f0 := (.sp 0 0)) (g0 := .nl) (f1 := .nl) (g1 := .nl) rfl rfl rfl rfl
    try simp only [ns0, ni1] at h
    rw [ho]
    try simp only [hg0, hg1, ns0, ni1]
    exact h
   have r2 : o 1081 [sHello g0 [] (.mp 0) .nl, I 1] = some ⟨[I zz], [.row () h0], none⟩ := by
    have h := ok1081_on w 1 lr wm ni1
    try simp only [wHello, mI, mExtS, ni1] at h
    rw [ho, hzz]
    try simp only [hg0, hh0, wHello, mI, mExtS, ni1]
    exact h
   have r3 : o 82 [sHello h0 [] (.sp 0 0) .nl, I 1] = some ⟨[I zz], [], none⟩ := by
    have h := ok82 w 1 lr wm (f0 := (.sp 0 0)) (f1 := .nl) rfl rfl
    try simp only [wHello, mI, mExtS, ni1] at h
    rw [ho, hzz]
    try simp only [hh0, wHello, mI, mExtS, ni1]
    exact h
   try (rw [kh]; cbv)
   try (rw [kpath]; cbv)
   try (rw [m1]; cbv)
   try (rw [kh]; cbv)
   try (rw [kpath]; cbv)
   try (rw [m2]; cbv)
   try (rw [r1]; cbv)
   try (rw [show not true = false by rw [F.not]; rfl]; cbv)
   try (rw [F.ne_f rfl]; cbv)
   try (rw [show not (beq w2 w2) = false by rw [F.not, F.beq]; simp]; cbv)
   try (rw [kh]; cbv)
   try (rw [qh]; cbv)
   try (rw [show not true = false by rw [F.not]; rfl]; cbv)
   try (rw [kpath]; cbv)
   try (rw [qpath]; cbv)
   try (rw [show not true = false by rw [F.not]; rfl]; cbv)
   try (rw [n1]; cbv)
   try (rw [n2]; cbv)
   try (rw [l1]; cbv)
   try (rw [r1]; cbv)
   try (rw [show not true = false by rw [F.not]; rfl]; cbv)
   try (rw [F.ne_f rfl]; cbv)
   try (rw [show not (beq w2 w2) = false by rw [F.not, F.beq]; simp]; cbv)
   try (rw [r2]; cbv)
   try (rw [r3]; cbv)
   try (rw [l2]; cbv)
   try (rw [l3]; cbv)
   try (rw [kh]; cbv)
   try (rw [kpath]; cbv)
   try (rw [m2]; cbv)
   try (rw [r1]; cbv)
   try (rw [show not true = false by rw [F.not]; rfl]; cbv)
   try (rw [F.ne_f rfl]; cbv)
   try (rw [show not (beq w2 w2) = false by rw [F.not, F.beq]; simp]; cbv)
   try (rw [r3]; cbv)
   try (rw [l2]; cbv)
   try (rw [l3]; cbv)
   repeat' (first | (rw [kh]; cbv) | (rw [qh]; cbv) | (rw [kpath]; cbv) | (rw [qpath]; cbv) | (rw [m1]; cbv) | (rw [m2]; cbv) | (rw [r1]; cbv) | (rw [n1]; cbv) | (rw [n2]; cbv) | (rw [r2]; cbv) | (rw [r3]; cbv) | (rw [l1]; cbv) | (rw [l2]; cbv) | (rw [l3]; cbv) | (rw [F.ne_f rfl]; cbv) | (rw [show not (beq w2 w2) = false by rw [F.not, F.beq]; simp]; cbv) | (rw [show not true = false by rw [F.not]; rfl]; cbv) | (rw [hQ]; cbv; exact congrArg some hr))
  ·have m1 : o 208 [sHello e1 e2 (.sp 0 0) (.sp 0 1), R e3 (.sp 1 0)] = some ⟨[sHello [] [] .nl .nl, I w1, B w2], [], none⟩ := by rw [ho, he1, he2, he3]; exact hs
   have m2 : o 184 [sHello e1 e2 (.sp 0 0) (.sp 0 1), R e3 (.sp 1 0)] = some ⟨[sHello [] [] .nl .nl, I w1, B w2], [], none⟩ := by rw [ho, he1, he2, he3]; exact hi
   have r1 : o 78 [sHello [] [] .nl .nl, sHello [] [] .nl .nl] = some ⟨[B true], [], none⟩ := by
    have h := ok78 w wm (f0 := .nl) (g0 := .nl) (f1 := .nl) (g1 := .nl) rfl rfl rfl rfl
    try simp only [ni0, ni1] at h
    rw [ho]
    try simp only [hg0, hg1, ni0, ni1]
    exact h
   have r2 : o 1081 [sHello [] [] .nl .nl, I 1] = some ⟨[I zz], [], none⟩ := by
    have h := ok1081_nn w 1 lr wm ni0 ni1
    try simp only [wHello, mI, mExtS, ni0, ni1] at h
    rw [ho, hzz]
    try simp only [wHello, mI, mExtS, ni0, ni1]
    exact h
   have r3 : o 82 [sHello [] [] .nl .nl, I 1] = some ⟨[I zz], [], none⟩ := by
    have h := ok82 w 1 lr wm (f0 := .nl) (f1 := .nl) rfl rfl
    try simp only [wHello, mI, mExtS, ni0, ni1] at h
    rw [ho, hzz]
    try simp only [wHello, mI, mExtS, ni0, ni1]
    exact h
   try (rw [kh]; cbv)
   try (rw [kpath]; cbv)
   try (rw [m1]; cbv)
   try (rw [kh]; cbv)
   try (rw [kpath]; cbv)
   try (rw [m2]; cbv)
   try (rw [r1]; cbv)
   try (rw [show not true = false by rw [F.not]; rfl]; cbv)
   try (rw [F.ne_f rfl]; cbv)
   try (rw [show not (beq w2 w2) = false by rw [F.not, F.beq]; simp]; cbv)
   try (rw [kh]; cbv)
   try (rw [qh]; cbv)
   try (rw [show not true = false by rw [F.not]; rfl]; cbv)
   try (rw [kpath]; cbv)
   try (rw [qpath]; cbv)
   try (rw [show not true = false by rw [F.not]; rfl]; cbv)
   try (rw [n1]; cbv)
   try (rw [n2]; cbv)
   try (rw [l1]; cbv)
   try (rw [r1]; cbv)
   try (rw [show not true = false by rw [F.not]; rfl]; cbv)
   try (rw [F.ne_f rfl]; cbv)
   try (rw [show not (beq w2 w2) = false by rw [F.not, F.beq]; simp]; cbv)
   try (rw [r2]; cbv)
   try (rw [r3]; cbv)
   try (rw [l2]; cbv)
   try (rw [l3]; cbv)
   try (rw [kh]; cbv)
   try (rw [kpath]; cbv)
   try (rw [m2]; cbv)
   try (rw [r1]; cbv)
   try (rw [show not true = false by rw [F.not]; rfl]; cbv)
   try (rw [F.ne_f rfl]; cbv)
   try (rw [show not (beq w2 w2) = false by rw [F.not, F.beq]; simp]; cbv)
   try (rw [r3]; cbv)
   try (rw [l2]; cbv)
   try (rw [l3]; cbv)
   repeat' (first | (rw [kh]; cbv) | (rw [qh]; cbv) | (rw [kpath]; cbv) | (rw [qpath]; cbv) | (rw [m1]; cbv) | (rw [m2]; cbv) | (rw [r1]; cbv) | (rw [n1]; cbv) | (rw [n2]; cbv) | (rw [r2]; cbv) | (rw [r3]; cbv) | (rw [l1]; cbv) | (rw [l2]; cbv) | (rw [l3]; cbv) | (rw [F.ne_f rfl]; cbv) | (rw [show not (beq w2 w2) = false by rw [F.not, F.beq]; simp]; cbv) | (rw [show not true = false by rw [F.not]; rfl]; cbv) | (rw [hQ]; cbv; exact congrArg some hr))
theorem ans49 : Answers Tb md 49 [(true, [.row [.int .i64], .row [.int .i64, .row [.int .i64]]]), (false, [.row [.int .i64, .row [.int .i64], .row [.int .i64], .bool]])] := answers_of (by
 intro vs h_
 obtain ⟨h, rfl, wh⟩ := fitL_Hello h_
 intro vs h_
 obtain ⟨_, _, rfl, h1_, h_⟩ := fitL_cons h_
 cases fitL_nil h_
 obtain ⟨path, rfl, wpath⟩ := fit_row (fun _ => fitL_Box) h1_
 exact law49 h wh path wpath)
end Go.Vm
