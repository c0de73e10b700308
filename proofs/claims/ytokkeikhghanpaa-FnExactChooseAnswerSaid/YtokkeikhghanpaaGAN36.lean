/- What the law answers. -/
import Derived.Test.YtokkeikhghanpaaGATab
import Derived.Test.YtokkeikhghanpaaGAFA
import Derived.Test.YtokkeikhghanpaaGAFK
import Derived.Test.YtokkeikhghanpaaGAFL
set_option maxHeartbeats 4000000
set_option maxRecDepth 10000
set_option linter.unusedVariables false
set_option linter.unusedSimpArgs false
namespace Go.Vm
theorem law36 (versions : List Int) (wversions : versions.length ≤ 9223372036854775807 ∧ ∀ y ∈ versions, Int64 y) (tags : List Int) (wtags : tags.length ≤ 9223372036854775807 ∧ ∀ y ∈ tags, Int64 y) (h : Hello) (wh : h.Fits) :
  fix Tb md 36 [R (row fI versions) (.sp 0 0), R (row fI tags) (.sp 1 0), sHello (row fI h.versions) (row fExt h.exts) (.sp 2 0) (.sp 2 1)] = some ⟨[B true], [], none⟩ := by
 generalize hr : (⟨_, [], none⟩ : Ret) = r
 obtain ⟨e1, he1⟩ := nm (row fI versions)
 obtain ⟨e2, he2⟩ := nm (row fI tags)
 obtain ⟨e3, he3⟩ := nm (row fI h.versions)
 obtain ⟨e4, he4⟩ := nm (row fExt h.exts)
 rw [← he1, ← he2, ← he3, ← he4]
 obtain ⟨v1, hv1⟩ := nm (szHello h 1048576)
 have u1 : v1 ≤ 1048576 := by rw [hv1]; exact (szHello_Sz h).up (by decide)
 have s1 := fun q : 0 ≤ v1 => (szHello_Sz h).ok 1048576 (by decide) (hv1 ▸ q)
 obtain ⟨w, hw⟩ := nm (caV versions tags h)
 obtain ⟨w1, hw1⟩ := nm (caOk versions h)
 refine fix_fn2 (fn := ir36) tb_36 rfl rfl (by decide) rfl ?_; intro Q hQ; simp only [shutArgs, shutS, List.map_cons, List.map_nil, ir36, List.head?_nil, reduceCtorEq, if_false, sExt, sHello, sAnswer, sEdit, sDeal, sBox, sDialed, sKnown, shut_in (f := .sp 0 0) rfl, shut_in (f := .sp 1 0) rfl, shut_in (f := .sp 2 0) rfl, shut_in (f := .sp 2 1) rfl]
 intro add sub mul arith eq ne lt le gt ge neg conv mn mx not beq len at' ln bd cut app allS isNil mks set o hP F ho
 have le1 := F.len_at he1
 have le2 := F.len_at he2
 have b1 : o 83 [sHello e3 e4 (.sp 0 0) (.sp 0 1), I 1048576] = some ⟨[I v1], [], none⟩ := by rw [ho, hv1, he3, he4]; exact ok83 h _ wh (by decide) (by decide) rfl rfl
 cbv
 refine both (fun dversions => ?_) (fun dversions => ?_) <;> rw [dversions] <;> cbv
 ·rw [hQ]; cbv; exact congrArg some hr
 have tversions : versions.length ≤ 1048576 := by unfold At at le1; simp only [F.gt, le1, decide_eq_false_iff_not] at dversions; omega
 refine both (fun dtags => ?_) (fun dtags => ?_) <;> rw [dtags] <;> cbv
 ·rw [hQ]; cbv; exact congrArg some hr
 have ttags : tags.length ≤ 1048576 := by unfold At at le2; simp only [F.gt, le2, decide_eq_false_iff_not] at dtags; omega
 rw [b1]; cbv
 refine both (fun d1 => ?_) (fun d1 => ?_) <;> rw [d1] <;> cbv
 ·rw [hQ]; cbv; exact congrArg some hr
 have p1 : 0 ≤ v1 := by simp only [F.lt, decide_eq_false_iff_not] at d1; omega
 have th := s1 p1
 have thm := th.mid
 have rh := th
 unfold Hello.Small at rh
 have kversions : o 76 [R e1 (.sp 0 0)] = some ⟨[R e1 (.ow false)], [], none⟩ := by rw [ho, he1]; exact ok76 versions (show versions.length ≤ 1099511627776 by omega) rfl
 have qversions : o 79 [R e1 (.sp 0 0), R e1 (.sp 1 0)] = some ⟨[B true], [], none⟩ := by rw [ho, he1]; exact ok79t versions (show versions.length ≤ 1099511627776 by omega) rfl  rfl
 have ktags : o 76 [R e2 (.sp 0 0)] = some ⟨[R e2 (.ow false)], [], none⟩ := by rw [ho, he2]; exact ok76 tags (show tags.length ≤ 1099511627776 by omega) rfl
 have qtags : o 79 [R e2 (.sp 0 0), R e2 (.sp 1 0)] = some ⟨[B true], [], none⟩ := by rw [ho, he2]; exact ok79t tags (show tags.length ≤ 1099511627776 by omega) rfl  rfl
 have kh : o 85 [sHello e3 e4 (.sp 0 0) (.sp 0 1)] = some ⟨[sHello e3 e4 (.ow false) (.ow false)], [], none⟩ := by rw [ho, he3, he4]; exact ok85 h thm rfl rfl
 have qh : o 78 [sHello e3 e4 (.sp 0 0) (.sp 0 1), sHello e3 e4 (.sp 1 0) (.sp 1 1)] = some ⟨[B true], [], none⟩ := by rw [ho, he3, he4]; exact ok78 h thm rfl rfl  rfl rfl
 have wm : w.Mid := by rw [hw]; exact caV_mid thm
 obtain ⟨g0, hg0⟩ := nm (row fExt w.exts)
 obtain ⟨h0, hh0⟩ := nm (row fExt ((wAnswer w 1).exts))
 obtain ⟨zz, hzz⟩ := nm (1 + (nAnswer w : Int))
 have lr : Lim 1 (nAnswer w) := Lim.of1 (by have := nAnswer_mid wm; omega)
 have l2 : lt zz 0 = false := by rw [F.lt, hzz]; simp; omega
 have l3 : ne zz zz = false := F.ne_f rfl
 have a0 : AtK 1 1 0 := AtK.zero
 have y0 := tversions
 have y1 := ttags
 have y2 := nHello_small th
 have lk : Lim 1 (0 + versions.length + tags.length + nHello h) := Lim.of1 (by omega)
 obtain ⟨z1, hz1⟩ := nm (1 + (versions.length : Int))
 have a1 : AtK z1 1 (0 + versions.length) := hz1 ▸ a0.plus
 have v1m : Lim 1 (versions.length) := a0.lim lk (by omega)
 obtain ⟨x0_0, hx0_0⟩ := nm (row fI (mI versions 1))
 have n1 : o 1080 [R e1 (.mp 0), I 1] = some ⟨[I z1], [.row () x0_0], none⟩ := by rw [ho, hz1, he1, hx0_0]; exact ok1080 _ _ v1m (by omega)
 obtain ⟨z2, hz2⟩ := nm (z1 + (tags.length : Int))
 have a2 : AtK z2 1 (0 + versions.length + tags.length) := hz2 ▸ a1.plus
 have v2m : Lim z1 (tags.length) := a1.lim lk (by omega)
 obtain ⟨x1_0, hx1_0⟩ := nm (row fI (mI tags z1))
 have n2 : o 1080 [R e2 (.mp 0), I z1] = some ⟨[I z2], [.row () x1_0], none⟩ := by rw [ho, hz2, he2, hx1_0]; exact ok1080 _ _ v2m (by omega)
 obtain ⟨z3, hz3⟩ := nm (z2 + (nHello h : Int))
 have a3 : AtK z3 1 (0 + versions.length + tags.length + nHello h) := hz3 ▸ a2.plus
 have v3m : Lim z2 (nHello h) := a2.lim lk (by omega)
 obtain ⟨x2_0, hx2_0⟩ := nm (row fI ((wHello h z2).versions))
 obtain ⟨x2_1, hx2_1⟩ := nm (row fExt ((wHello h z2).exts))
 have n3 : o 1081 [sHello e3 e4 (.mp 0) (.mp 1), I z2] = some ⟨[I z3], [.row () x2_0, .row () x2_1], none⟩ := by rw [ho, hz3, he3, he4, hx2_0, hx2_1]; exact ok1081 h _ v3m thm
 have l1 : lt z3 0 = false := by rw [F.lt]; have := a3.same; simp; omega
 have hs : (fix Tb md 168 [R (row fI versions) (.sp 0 0), R (row fI tags) (.sp 1 0), sHello (row fI h.versions) (row fExt h.exts) (.sp 2 0) (.sp 2 1)] = some ⟨[sAnswer w.version (row fExt w.exts) (.ow false), B w1], [], none⟩) ∨ (w.exts = [] ∧ fix Tb md 168 [R (row fI versions) (.sp 0 0), R (row fI tags) (.sp 1 0), sHello (row fI h.versions) (row fExt h.exts) (.sp 2 0) (.sp 2 1)] = some ⟨[sAnswer w.version [] .nl, B w1], [], none⟩) := by rw [hw, hw1]; exact ok168 versions tags h (by omega) (by omega) thm rfl rfl rfl rfl
 have hi : (fix Tb md 169 [R (row fI versions) (.sp 0 0), R (row fI tags) (.sp 1 0), sHello (row fI h.versions) (row fExt h.exts) (.sp 2 0) (.sp 2 1)] = some ⟨[sAnswer w.version (row fExt w.exts) (.ow false), B w1], [], none⟩) ∨ (w.exts = [] ∧ fix Tb md 169 [R (row fI versions) (.sp 0 0), R (row fI tags) (.sp 1 0), sHello (row fI h.versions) (row fExt h.exts) (.sp 2 0) (.sp 2 1)] = some ⟨[sAnswer w.version [] .nl, B w1], [], none⟩) := by rw [hw, hw1]; exact ok169 versions tags h (by omega) (by omega) thm rfl rfl rfl rfl
 rcases hs with hs | ⟨ns0, hs⟩
 ·rcases hi with hi | ⟨ni0, hi⟩
  ·have m1 : o 168 [R e1 (.sp 0 0), R e2 (.sp 1 0), sHello e3 e4 (.sp 2 0) (.sp 2 1)] = some ⟨[sAnswer w.version g0 (.ow false), B w1], [], none⟩ := by rw [ho, he1, he2, he3, he4]; simp only [hg0]; exact hs
   have m2 : o 169 [R e1 (.sp 0 0), R e2 (.sp 1 0), sHello e3 e4 (.sp 2 0) (.sp 2 1)] = some ⟨[sAnswer w.version g0 (.ow false), B w1], [], none⟩ := by rw [ho, he1, he2, he3, he4]; simp only [hg0]; exact hi
   have r1 : o 129 [sAnswer w.version g0 (.sp 0 1), sAnswer w.version g0 (.sp 1 1)] = some ⟨[B true], [], none⟩ := by
    have h := ok129 w wm (f0 := (.sp 0 1)) (g0 := (.sp 1 1)) rfl rfl
    rw [ho]
    try simp only [hg0]
    exact h
   have r2 : o 1153 [sAnswer w.version g0 (.mp 0), I 1] = some ⟨[I zz], [.row () h0], none⟩ := by
    have h := ok1153 w 1 lr wm
    rw [ho, hzz]
    try simp only [hg0, hh0]
    exact h
   have r3 : o 156 [sAnswer w.version h0 (.sp 0 1), I 1] = some ⟨[I zz], [], none⟩ := by
    have h := ok156 w 1 lr wm (f0 := (.sp 0 1)) rfl
    rw [ho, hzz]
    try simp only [hh0]
    exact h
   try (rw [kversions]; cbv)
   try (rw [ktags]; cbv)
   try (rw [kh]; cbv)
   try (rw [m1]; cbv)
   try (rw [kversions]; cbv)
   try (rw [ktags]; cbv)
   try (rw [kh]; cbv)
   try (rw [m2]; cbv)
   try (rw [r1]; cbv)
   try (rw [show not true = false by rw [F.not]; rfl]; cbv)
   try (rw [show not (beq w1 w1) = false by rw [F.not, F.beq]; simp]; cbv)
   try (rw [kversions]; cbv)
   try (rw [qversions]; cbv)
   try (rw [show not true = false by rw [F.not]; rfl]; cbv)
   try (rw [ktags]; cbv)
   try (rw [qtags]; cbv)
   try (rw [show not true = false by rw [F.not]; rfl]; cbv)
   try (rw [kh]; cbv)
   try (rw [qh]; cbv)
   try (rw [show not true = false by rw [F.not]; rfl]; cbv)
   try (rw [n1]; cbv)
   try (rw [n2]; cbv)
   try (rw [n3]; cbv)
   try (rw [l1]; cbv)
   try (rw [r1]; cbv)
   try (rw [show not true = false by rw [F.not]; rfl]; cbv)
   try (rw [show not (beq w1 w1) = false by rw [F.not, F.beq]; simp]; cbv)
   try (rw [r2]; cbv)
   try (rw [r3]; cbv)
   try (rw [l2]; cbv)
   try (rw [l3]; cbv)
   try (rw [kversions]; cbv)
   try (rw [ktags]; cbv)
   try (rw [kh]; cbv)
   try (rw [m2]; cbv)
   try (rw [r1]; cbv)
   try (rw [show not true = false by rw [F.not]; rfl]; cbv)
   try (rw [show not (beq w1 w1) = false by rw [F.not, F.beq]; simp]; cbv)
   try (rw [r3]; cbv)
   try (rw [l2]; cbv)
   try (rw [l3]; cbv)
   repeat' (first | (rw [kversions]; cbv) | (rw [qversions]; cbv) | (rw [ktags]; cbv) | (rw [qtags]; cbv) | (rw [kh]; cbv) | (rw [qh]; cbv) | (rw [m1]; cbv) | (rw [m2]; cbv) | (rw [r1]; cbv) | (rw [n1]; cbv) | (rw [n2]; cbv) | (rw [n3]; cbv) | (rw [r2]; cbv) | (rw [r3]; cbv) | (rw [l1]; cbv) | (rw [l2]; cbv) | (rw [l3]; cbv) | (rw [F.ne_f rfl]; cbv) | (rw [show not (beq w1 w1) = false by rw [F.not, F.beq]; simp]; cbv) | (rw [show not true = false by rw [F.not]; rfl]; cbv) | (rw [hQ]; cbv; exact congrArg some hr))
  ·have m1 : o 168 [R e1 (.sp 0 0), R e2 (.sp 1 0), sHello e3 e4 (.sp 2 0) (.sp 2 1)] = some ⟨[sAnswer w.version g0 (.ow false), B w1], [], none⟩ := by rw [ho, he1, he2, he3, he4]; simp only [hg0]; exact hs
   have m2 : o 169 [R e1 (.sp 0 0), R e2 (.sp 1 0), sHello e3 e4 (.sp 2 0) (.sp 2 1)] = some ⟨[sAnswer w.version [] .nl, B w1], [], none⟩ := by rw [ho, he1, he2, he3, he4]; exact hi
   have r1 : o 129 [sAnswer w.version [] .nl, sAnswer w.version g0 (.sp 1 1)] = some ⟨[B true], [], none⟩ := by
    have h := ok129 w wm (f0 := .nl) (g0 := (.sp 1 1)) rfl rfl
    try simp only [ni0] at h
    rw [ho]
    try simp only [hg0, ni0]
    exact h
   have r2 : o 1153 [sAnswer w.version [] .nl, I 1] = some ⟨[I zz], [], none⟩ := by
    have h := ok1153_n w 1 lr wm ni0
    try simp only [wAnswer, mI, mExtS, ni0] at h
    rw [ho, hzz]
    try simp only [wAnswer, mI, mExtS, ni0]
    exact h
   have r3 : o 156 [sAnswer w.version [] .nl, I 1] = some ⟨[I zz], [], none⟩ := by
    have h := ok156 w 1 lr wm (f0 := .nl) rfl
    try simp only [wAnswer, mI, mExtS, ni0] at h
    rw [ho, hzz]
    try simp only [wAnswer, mI, mExtS, ni0]
    exact h
   try (rw [kversions]; cbv)
   try (rw [ktags]; cbv)
   try (rw [kh]; cbv)
   try (rw [m1]; cbv)
   try (rw [kversions]; cbv)
   try (rw [ktags]; cbv)
   try (rw [kh]; cbv)
   try (rw [m2]; cbv)
   try (rw [r1]; cbv)
   try (rw [show not true = false by rw [F.not]; rfl]; cbv)
   try (rw [show not (beq w1 w1) = false by rw [F.not, F.beq]; simp]; cbv)
   try (rw [kversions]; cbv)
   try (rw [qversions]; cbv)
   try (rw [show not true = false by rw [F.not]; rfl]; cbv)
   try (rw [ktags]; cbv)
   try (rw [qtags]; cbv)
   try (rw [show not true = false by rw [F.not]; rfl]; cbv)
   try (rw [kh]; cbv)
   try (rw [qh]; cbv)
   try (rw [show not true = false by rw [F.not]; rfl]; cbv)
   try (rw [n1]; cbv)
   try (rw [n2]; cbv)
   try (rw [n3]; cbv)
   try (rw [l1]; cbv)
   try (rw [r1]; cbv)
   try (rw [show not true = false by rw [F.not]; rfl]; cbv)
   try (rw [show not (beq w1 w1) = false by rw [F.not, F.beq]; simp]; cbv)
   try (rw [r2]; cbv)
   try (rw [r3]; cbv)
   try (rw [l2]; cbv)
   try (rw [l3]; cbv)
   try (rw [kversions]; cbv)
   try (rw [ktags]; cbv)
   try (rw [kh]; cbv)
   try (rw [m2]; cbv)
   try (rw [r1]; cbv)
   try (rw [show not true = false by rw [F.not]; rfl]; cbv)
   try (rw [show not (beq w1 w1) = false by rw [F.not, F.beq]; simp]; cbv)
   try (rw [r3]; cbv)
   try (rw [l2]; cbv)
   try (rw [l3]; cbv)
   repeat' (first | (rw [kversions]; cbv) | (rw [qversions]; cbv) | (rw [ktags]; cbv) | (rw [qtags]; cbv) | (rw [kh]; cbv) | (rw [qh]; cbv) | (rw [m1]; cbv) | (rw [m2]; cbv) | (rw [r1]; cbv) | (rw [n1]; cbv) | (rw [n2]; cbv) | (rw [n3]; cbv) | (rw [r2]; cbv) | (rw [r3]; cbv) | (rw [l1]; cbv) | (rw [l2]; cbv) | (rw [l3]; cbv) | (rw [F.ne_f rfl]; cbv) | (rw [show not (beq w1 w1) = false by rw [F.not, F.beq]; simp]; cbv) | (rw [show not true = false by rw [F.not]; rfl]; cbv) | (rw [hQ]; cbv; exact congrArg some hr))
 ·rcases hi with hi | ⟨ni0, hi⟩
  ·have m1 : o 168 [R e1 (.sp 0 0), R e2 (.sp 1 0), sHello e3 e4 (.sp 2 0) (.sp 2 1)] = some ⟨[sAnswer w.version [] .nl, B w1], [], none⟩ := by rw [ho, he1, he2, he3, he4]; exact hs
   have m2 : o 169 [R e1 (.sp 0 0), R e2 (.sp 1 0), sHello e3 e4 (.sp 2 0) (.sp 2 1)] = some ⟨[sAnswer w.version g0 (.ow false), B w1], [], none⟩ := by rw [ho, he1, he2, he3, he4]; simp only [hg0]; exact hi
   have r1 : o 129 [sAnswer w.version g0 (.sp 0 1), sAnswer w.version [] .nl] = some ⟨[B true], [], none⟩ := by
    have h := ok129 w wm (f0 := (.sp 0 1)) (g0 := .nl) rfl rfl
    try simp only [ns0] at h
    rw [ho]
    try simp only [hg0, ns0]
    exact h
   have r2 : o 1153 [sAnswer w.version g0 (.mp 0), I 1] = some ⟨[I zz], [.row () h0], none⟩ := by
    have h := ok1153 w 1 lr wm
    rw [ho, hzz]
    try simp only [hg0, hh0]
    exact h
   have r3 : o 156 [sAnswer w.version h0 (.sp 0 1), I 1] = some ⟨[I zz], [], none⟩ := by
    have h := ok156 w 1 lr wm (f0 := (.sp 0 1)) rfl
    rw [ho, hzz]
    try simp only [hh0]
    exact h
   try (rw [kversions]; cbv)
   try (rw [ktags]; cbv)
   try (rw [kh]; cbv)
   try (rw [m1]; cbv)
   try (rw [kversions]; cbv)
   try (rw [ktags]; cbv)
   try (rw [kh]; cbv)
   try (rw [m2]; cbv)
   try (rw [r1]; cbv)
   try (rw [show not true = false by rw [F.not]; rfl]; cbv)
   try (rw [show not (beq w1 w1) = false by rw [F.not, F.beq]; simp]; cbv)
   try (rw [kversions]; cbv)
   try (rw [qversions]; cbv)
   try (rw [show not true = false by rw [F.not]; rfl]; cbv)
   try (rw [ktags]; cbv)
   try (rw [qtags]; cbv)
   try (rw [show not true = false by rw [F.not]; rfl]; cbv)
   try (rw [kh]; cbv)
   try (rw [qh]; cbv)
   try (rw [show not true = false by rw [F.not]; rfl]; cbv)
   try (rw [n1]; cbv)
   try (rw [n2]; cbv)
   try (rw [n3]; cbv)
   try (rw [l1]; cbv)
   try (rw [r1]; cbv)
   try (rw [show not true = false by rw [F.not]; rfl]; cbv)
   try (rw [show not (beq w1 w1) = false by rw [F.not, F.beq]; simp]; cbv)
   try (rw [r2]; cbv)
   try (rw [r3]; cbv)
   try (rw [l2]; cbv)
   try (rw [l3]; cbv)
   try (rw [kversions]; cbv)
   try (rw [ktags]; cbv)
   try (rw [kh]; cbv)
   try (rw [m2]; cbv)
   try (rw [r1]; cbv)
   try (rw [show not true = false by rw [F.not]; rfl]; cbv)
   try (rw [show not (beq w1 w1) = false by rw [F.not, F.beq]; simp]; cbv)
   try (rw [r3]; cbv)
   try (rw [l2]; cbv)
   try (rw [l3]; cbv)
   repeat' (first | (rw [kversions]; cbv) | (rw [qversions]; cbv) | (rw [ktags]; cbv) | (rw [qtags]; cbv) | (rw [kh]; cbv) | (rw [qh]; cbv) | (rw [m1]; cbv) | (rw [m2]; cbv) | (rw [r1]; cbv) | (rw [n1]; cbv) | (rw [n2]; cbv) | (rw [n3]; cbv) | (rw [r2]; cbv) | (rw [r3]; cbv) | (rw [l1]; cbv) | (rw [l2]; cbv) | (rw [l3]; cbv) | (rw [F.ne_f rfl]; cbv) | (rw [show not (beq w1 w1) = false by rw [F.not, F.beq]; simp]; cbv) | (rw [show not true = false by rw [F.not]; rfl]; cbv) | (rw [hQ]; cbv; exact congrArg some hr))
  ·have m1 : o 168 [R e1 (.sp 0 0), R e2 (.sp 1 0), sHello e3 e4 (.sp 2 0) (.sp 2 1)] = some ⟨[sAnswer w.version [] .nl, B w1], [], none⟩ := by rw [ho, he1, he2, he3, he4]; exact hs
   have m2 : o 169 [R e1 (.sp 0 0), R e2 (.sp 1 0), sHello e3 e4 (.sp 2 0) (.sp 2 1)] = some ⟨[sAnswer w.version [] .nl, B w1], [], none⟩ := by rw [ho, he1, he2, he3, he4]; exact hi
   have r1 : o 129 [sAnswer w.version [] .nl, sAnswer w.version [] .nl] = some ⟨[B true], [], none⟩ := by
    have h := ok129 w wm (f0 := .nl) (g0 := .nl) rfl rfl
    try simp only [ni0] at h
    rw [ho]
    try simp only [hg0, ni0]
    exact h
   have r2 : o 1153 [sAnswer w.version [] .nl, I 1] = some ⟨[I zz], [], none⟩ := by
    have h := ok1153_n w 1 lr wm ni0
    try simp only [wAnswer, mI, mExtS, ni0] at h
    rw [ho, hzz]
    try simp only [wAnswer, mI, mExtS, ni0]
    exact h
   have r3 : o 156 [sAnswer w.version [] .nl, I 1] = some ⟨[I zz], [], none⟩ := by
    have h := ok156 w 1 lr wm (f0 := .nl) rfl
    try simp only [wAnswer, mI, mExtS, ni0] at h
    rw [ho, hzz]
    try simp only [wAnswer, mI, mExtS, ni0]
    exact h
   try (rw [kversions]; cbv)
   try (rw [ktags]; cbv)
   try (rw [kh]; cbv)
   try (rw [m1]; cbv)
   try (rw [kversions]; cbv)
   try (rw [ktags]; cbv)
   try (rw [kh]; cbv)
   try (rw [m2]; cbv)
   try (rw [r1]; cbv)
   try (rw [show not true = false by rw [F.not]; rfl]; cbv)
   try (rw [show not (beq w1 w1) = false by rw [F.not, F.beq]; simp]; cbv)
   try (rw [kversions]; cbv)
   try (rw [qversions]; cbv)
   try (rw [show not true = false by rw [F.not]; rfl]; cbv)
   try (rw [ktags]; cbv)
   try (rw [qtags]; cbv)
   try (rw [show not true = false by rw [F.not]; rfl]; cbv)
   try (rw [kh]; cbv)
   try (rw [qh]; cbv)
   try (rw [show not true = false by rw [F.not]; rfl]; cbv)
   try (rw [n1]; cbv)
   try (rw [n2]; cbv)
   try (rw [n3]; cbv)
   try (rw [l1]; cbv)
   try (rw [r1]; cbv)
   try (rw [show not true = false by rw [F.not]; rfl]; cbv)
   try (rw [show not (beq w1 w1) = false by rw [F.not, F.beq]; simp]; cbv)
   try (rw [r2]; cbv)
   try (rw [r3]; cbv)
   try (rw [l2]; cbv)
   try (rw [l3]; cbv)
   try (rw [kversions]; cbv)
   try (rw [ktags]; cbv)
   try (rw [kh]; cbv)
   try (rw [m2]; cbv)
   try (rw [r1]; cbv)
   try (rw [show not true = false by rw [F.not]; rfl]; cbv)
   try (rw [show not (beq w1 w1) = false by rw [F.not, F.beq]; simp]; cbv)
   try (rw [r3]; cbv)
   try (rw [l2]; cbv)
   try (rw [l3]; cbv)
   repeat' (first | (rw [kversions]; cbv) | (rw [qversions]; cbv) | (rw [ktags]; cbv) | (rw [qtags]; cbv) | (rw [kh]; cbv) | (rw [qh]; cbv) | (rw [m1]; cbv) | (rw [m2]; cbv) | (rw [r1]; cbv) | (rw [n1]; cbv) | (rw [n2]; cbv) | (rw [n3]; cbv) | (rw [r2]; cbv) | (rw [r3]; cbv) | (rw [l1]; cbv) | (rw [l2]; cbv) | (rw [l3]; cbv) | (rw [F.ne_f rfl]; cbv) | (rw [show not (beq w1 w1) = false by rw [F.not, F.beq]; simp]; cbv) | (rw [show not true = false by rw [F.not]; rfl]; cbv) | (rw [hQ]; cbv; exact congrArg some hr))
theorem ans36 : Answers Tb md 36 [(false, [.row [.int .i64]]), (false, [.row [.int .i64]]), (true, [.row [.int .i64], .row [.int .i64, .row [.int .i64]]])] := answers_of (by
 intro vs h_
 obtain ⟨versions, rfl, wversions⟩ := fitL_R h_
 intro vs h_
 obtain ⟨tags, rfl, wtags⟩ := fitL_R h_
 intro vs h_
 obtain ⟨h, rfl, wh⟩ := fitL_Hello h_
 exact law36 versions wversions tags wtags h wh)
end Go.Vm
