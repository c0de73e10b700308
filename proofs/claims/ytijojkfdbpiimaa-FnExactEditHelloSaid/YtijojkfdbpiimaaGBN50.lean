/- What the law answers. -/
import Derived.Test.YtijojkfdbpiimaaGBTab
import Derived.Test.YtijojkfdbpiimaaGBFA
import Derived.Test.YtijojkfdbpiimaaGBFB
import Derived.Test.YtijojkfdbpiimaaGBFC
set_option maxHeartbeats 4000000
set_option maxRecDepth 10000
set_option linter.unusedVariables false
set_option linter.unusedSimpArgs false
namespace Go.Vm
theorem law50 (h : Hello) (wh : h.Fits) (e : Edit) (we : e.Fits) :
  fix Tb md 50 [sHello (row fI h.versions) (row fExt h.exts) (.sp 0 0) (.sp 0 1), sEdit e.kind e.n ] = some ⟨[B true], [], none⟩ := by
 generalize hr : (⟨_, [], none⟩ : Ret) = r
 obtain ⟨e1, he1⟩ := nm (row fI h.versions)
 obtain ⟨e2, he2⟩ := nm (row fExt h.exts)
 rw [← he1, ← he2]
 obtain ⟨v1, hv1⟩ := nm (szHello h 1048576)
 have u1 : v1 ≤ 1048576 := by rw [hv1]; exact (szHello_Sz h).up (by decide)
 have s1 := fun q : 0 ≤ v1 => (szHello_Sz h).ok 1048576 (by decide) (hv1 ▸ q)
 obtain ⟨w, hw⟩ := nm (editH h e)
 refine fix_fn2 (fn := ir50) tb_50 rfl rfl (by decide) rfl ?_; intro Q hQ; simp only [shutArgs, shutS, List.map_cons, List.map_nil, ir50, List.head?_nil, reduceCtorEq, if_false, sExt, sHello, sAnswer, sEdit, sDeal, sBox, sDialed, sKnown, shut_in (f := .sp 0 0) rfl, shut_in (f := .sp 0 1) rfl]
 intro add sub mul arith eq ne lt le gt ge neg conv mn mx not beq len at' ln bd cut app allS isNil mks set o hP F ho
 have b1 : o 83 [sHello e1 e2 (.sp 0 0) (.sp 0 1), I 1048576] = some ⟨[I v1], [], none⟩ := by rw [ho, hv1, he1, he2]; exact ok83 h _ wh (by decide) (by decide) rfl rfl
 cbv
 rw [b1]; cbv
 refine both (fun d1 => ?_) (fun d1 => ?_) <;> rw [d1] <;> cbv
 ·rw [hQ]; cbv; exact congrArg some hr
 have p1 : 0 ≤ v1 := by simp only [F.lt, decide_eq_false_iff_not] at d1; omega
 have th := s1 p1
 have thm := th.mid
 have rh := th
 unfold Hello.Small at rh
 have kh : o 85 [sHello e1 e2 (.sp 0 0) (.sp 0 1)] = some ⟨[sHello e1 e2 (.ow false) (.ow false)], [], none⟩ := by rw [ho, he1, he2]; exact ok85 h thm rfl rfl
 have qh : o 78 [sHello e1 e2 (.sp 0 0) (.sp 0 1), sHello e1 e2 (.sp 1 0) (.sp 1 1)] = some ⟨[B true], [], none⟩ := by rw [ho, he1, he2]; exact ok78 h thm rfl rfl  rfl rfl
 have ke : o 155 [sEdit e.kind e.n ] = some ⟨[sEdit e.kind e.n ], [], none⟩ := by rw [ho]; exact ok155 e (show Edit.Mid e from trivial)
 have wm : w.Mid := by rw [hw]; exact hB_mid (editH_b (n := 1048576) (m := 1048576) ⟨rh.1, rh.2.1, thm.2.2⟩) (by decide)
 obtain ⟨g0, hg0⟩ := nm (row fI w.versions)
 obtain ⟨h0, hh0⟩ := nm (row fI ((wHello w 1).versions))
 obtain ⟨g1, hg1⟩ := nm (row fExt w.exts)
 obtain ⟨h1, hh1⟩ := nm (row fExt ((wHello w 1).exts))
 obtain ⟨zz, hzz⟩ := nm (1 + (nHello w : Int))
 have lr : Lim 1 (nHello w) := Lim.of1 (by have := nHello_mid wm; omega)
 have l2 : lt zz 0 = false := by rw [F.lt, hzz]; simp; omega
 have l3 : ne zz zz = false := F.ne_f rfl
 have a0 : AtK 1 1 0 := AtK.zero
 have y0 := nHello_small th
 have lk : Lim 1 (0 + nHello h) := Lim.of1 (by omega)
 obtain ⟨z1, hz1⟩ := nm (1 + (nHello h : Int))
 have a1 : AtK z1 1 (0 + nHello h) := hz1 ▸ a0.plus
 have v1m : Lim 1 (nHello h) := a0.lim lk (by omega)
 obtain ⟨x0_0, hx0_0⟩ := nm (row fI ((wHello h 1).versions))
 obtain ⟨x0_1, hx0_1⟩ := nm (row fExt ((wHello h 1).exts))
 have n1 : o 1081 [sHello e1 e2 (.mp 0) (.mp 1), I 1] = some ⟨[I z1], [.row () x0_0, .row () x0_1], none⟩ := by rw [ho, hz1, he1, he2, hx0_0, hx0_1]; exact ok1081 h _ v1m thm
 have l1 : lt z1 0 = false := by rw [F.lt]; have := a1.same; simp; omega
 have hs : fix Tb md 209 [sHello (row fI h.versions) (row fExt h.exts) (.sp 0 0) (.sp 0 1), sEdit e.kind e.n ] = some ⟨[sHello (row fI w.versions) (row fExt w.exts) (.ow false) (.ow false)], [], none⟩ := by rw [hw]; exact ok209 h e ⟨by omega, by omega, thm.2.2⟩ rfl rfl
 have hi : fix Tb md 117 [sHello (row fI h.versions) (row fExt h.exts) (.sp 0 0) (.sp 0 1), sEdit e.kind e.n ] = some ⟨[sHello (row fI w.versions) (row fExt w.exts) (.ow false) (.ow false)], [], none⟩ := by rw [hw]; exact ok117 h e ⟨by omega, by omega, thm.2.2⟩ rfl rfl
 have m1 : o 209 [sHello e1 e2 (.sp 0 0) (.sp 0 1), sEdit e.kind e.n ] = some ⟨[sHello g0 g1 (.ow false) (.ow false)], [], none⟩ := by rw [ho, he1, he2]; simp only [hg0, hg1]; exact hs
 have m2 : o 117 [sHello e1 e2 (.sp 0 0) (.sp 0 1), sEdit e.kind e.n ] = some ⟨[sHello g0 g1 (.ow false) (.ow false)], [], none⟩ := by rw [ho, he1, he2]; simp only [hg0, hg1]; exact hi
 have r1 : o 78 [sHello g0 g1 (.sp 0 0) (.sp 0 1), sHello g0 g1 (.sp 1 0) (.sp 1 1)] = some ⟨[B true], [], none⟩ := by
  have h := ok78 w wm (f0 := (.sp 0 0)) (g0 := (.sp 1 0)) (f1 := (.sp 0 1)) (g1 := (.sp 1 1)) rfl rfl rfl rfl
  rw [ho]
  try simp only [hg0, hg1]
  exact h
 have r2 : o 1081 [sHello g0 g1 (.mp 0) (.mp 1), I 1] = some ⟨[I zz], [.row () h0, .row () h1], none⟩ := by
  have h := ok1081 w 1 lr wm
  rw [ho, hzz]
  try simp only [hg0, hg1, hh0, hh1]
  exact h
 have r3 : o 82 [sHello h0 h1 (.sp 0 0) (.sp 0 1), I 1] = some ⟨[I zz], [], none⟩ := by
  have h := ok82 w 1 lr wm (f0 := (.sp 0 0)) (f1 := (.sp 0 1)) rfl rfl
  rw [ho, hzz]
  try simp only [hh0, hh1]
  exact h
 try (rw [kh]; cbv)
 try (rw [ke]; cbv)
 try (rw [m1]; cbv)
 try (rw [kh]; cbv)
 try (rw [ke]; cbv)
 try (rw [m2]; cbv)
 try (rw [r1]; cbv)
 try (rw [show not true = false by rw [F.not]; rfl]; cbv)
 try (rw [kh]; cbv)
 try (rw [qh]; cbv)
 try (rw [show not true = false by rw [F.not]; rfl]; cbv)
 try (rw [n1]; cbv)
 try (rw [l1]; cbv)
 try (rw [r1]; cbv)
 try (rw [show not true = false by rw [F.not]; rfl]; cbv)
 try (rw [r2]; cbv)
 try (rw [r3]; cbv)
 try (rw [l2]; cbv)
 try (rw [l3]; cbv)
 try (rw [kh]; cbv)
 try (rw [ke]; cbv)
 try (rw [m2]; cbv)
 try (rw [r1]; cbv)
 try (rw [show not true = false by rw [F.not]; rfl]; cbv)
 try (rw [r3]; cbv)
 try (rw [l2]; cbv)
 try (rw [l3]; cbv)
 repeat' (first | (rw [kh]; cbv) | (rw [qh]; cbv) | (rw [ke]; cbv) | (rw [m1]; cbv) | (rw [m2]; cbv) | (rw [r1]; cbv) | (rw [n1]; cbv) | (rw [r2]; cbv) | (rw [r3]; cbv) | (rw [l1]; cbv) | (rw [l2]; cbv) | (rw [l3]; cbv) | (rw [F.ne_f rfl]; cbv) | (rw [show not true = false by rw [F.not]; rfl]; cbv) | (rw [hQ]; cbv; exact congrArg some hr))
theorem ans50 : Answers Tb md 50 [(true, [.row [.int .i64], .row [.int .i64, .row [.int .i64]]]), (true, [.int .i64, .int .i64])] := answers_of (by
 intro vs h_
 obtain ⟨h, rfl, wh⟩ := fitL_Hello h_
 intro vs h_
 obtain ⟨e, rfl, we⟩ := fitL_Edit h_
 exact law50 h wh e we)
end Go.Vm
