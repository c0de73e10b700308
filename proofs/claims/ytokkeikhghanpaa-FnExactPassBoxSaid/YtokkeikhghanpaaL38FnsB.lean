/- What the functions answer. -/
import Derived.Test.YtokkeikhghanpaaL38FnsA
set_option maxHeartbeats 4000000
set_option maxRecDepth 10000
set_option linter.unusedVariables false
set_option linter.unusedSimpArgs false
namespace Go.Vm

/- laws.FnExactPassBox -/
theorem law38 (b : Box) (wb : b.Fits) (h : Hello) (wh : h.Fits) :
    fix Tb md 38 [sBox b.limit (row fI b.drops) (row fI b.strips) b.lists (.sp 0 1) (.sp 0 2), sHello (row fI h.versions) (row fExt h.exts) (.sp 1 0) (.sp 1 1)] = some ⟨[B true], [], none⟩ := by
  generalize hr : (⟨_, [], none⟩ : Ret) = r
  obtain ⟨e1, he1⟩ : ∃ y_, y_ = row fI b.drops := ⟨_, rfl⟩
  obtain ⟨e2, he2⟩ : ∃ y_, y_ = row fI b.strips := ⟨_, rfl⟩
  obtain ⟨e3, he3⟩ : ∃ y_, y_ = row fI h.versions := ⟨_, rfl⟩
  obtain ⟨e4, he4⟩ : ∃ y_, y_ = row fExt h.exts := ⟨_, rfl⟩
  rw [← he1, ← he2, ← he3, ← he4]
  obtain ⟨v1, hv1⟩ : ∃ y_, y_ = szBox b 1048576 := ⟨_, rfl⟩
  have u1 : v1 ≤ 1048576 := by rw [hv1]; exact (szBox_Sz b).up (by decide)
  have s1 := fun q : 0 ≤ v1 => (szBox_Sz b).ok 1048576 (by decide) (hv1 ▸ q)
  obtain ⟨v2, hv2⟩ : ∃ y_, y_ = szHello h v1 := ⟨_, rfl⟩
  have u2 : v2 ≤ 1048576 := by rw [hv2]; exact (szHello_Sz h).up u1
  have s2 := fun q : 0 ≤ v2 => (szHello_Sz h).ok v1 u1 (hv2 ▸ q)
  obtain ⟨w, hw⟩ : ∃ y_, y_ = pbV b h := ⟨_, rfl⟩
  obtain ⟨w1, hw1⟩ : ∃ y_, y_ = pbOk b h := ⟨_, rfl⟩
  refine fix_fn2 (fn := ir38) tb_38 rfl rfl (by decide) rfl ?_; intro Q hQ; simp only [shutArgs, shutS, List.map_cons, List.map_nil, ir38, List.head?_nil, reduceCtorEq, if_false, sExt, sHello, sAnswer, sEdit, sDeal, sBox, sDialed, sKnown, shut_in (f := .sp 0 1) rfl, shut_in (f := .sp 0 2) rfl, shut_in (f := .sp 1 0) rfl, shut_in (f := .sp 1 1) rfl]
  intro add sub mul arith eq ne lt le gt ge neg conv mn mx not beq len at' ln bd cut app allS isNil mks set o hP F ho
  have b1 : o 56 [sBox b.limit e1 e2 b.lists (.sp 0 1) (.sp 0 2), I 1048576] = some ⟨[I v1], [], none⟩ := by rw [ho, hv1, he1, he2]; exact ok56 b _ wb (by decide) (by decide) rfl rfl 
  have b2 : 0 ≤ v1 → o 83 [sHello e3 e4 (.sp 0 0) (.sp 0 1), I v1] = some ⟨[I v2], [], none⟩ := by intro q; rw [ho, hv2, he3, he4]; exact ok83 h _ wh q u1 rfl rfl 
  cbv
  rw [b1]; cbv
  refine both (fun d1 => ?_) (fun d1 => ?_) <;> rw [d1] <;> cbv
  · rw [hQ]; cbv; exact congrArg some hr
  have p1 : 0 ≤ v1 := by simp only [F.lt, decide_eq_false_iff_not] at d1; omega
  have tb := s1 p1
  have tbm := tb.mid
  have rb := tb
  unfold Box.Small at rb
  rw [b2 p1]; cbv
  refine both (fun d2 => ?_) (fun d2 => ?_) <;> rw [d2] <;> cbv
  · rw [hQ]; cbv; exact congrArg some hr
  have p2 : 0 ≤ v2 := by simp only [F.lt, decide_eq_false_iff_not] at d2; omega
  have th := s2 p2
  have thm := th.mid
  have rh := th
  unfold Hello.Small at rh
  have kb : o 58 [sBox b.limit e1 e2 b.lists (.sp 0 1) (.sp 0 2)] = some ⟨[sBox b.limit e1 e2 b.lists (.ow false) (.ow false)], [], none⟩ := by rw [ho, he1, he2]; exact ok58 b tbm rfl rfl 
  have qb : o 60 [sBox b.limit e1 e2 b.lists (.sp 0 1) (.sp 0 2), sBox b.limit e1 e2 b.lists (.sp 1 1) (.sp 1 2)] = some ⟨[B true], [], none⟩ := by rw [ho, he1, he2]; exact ok60 b tbm rfl rfl  rfl rfl 
  have kh : o 85 [sHello e3 e4 (.sp 0 0) (.sp 0 1)] = some ⟨[sHello e3 e4 (.ow false) (.ow false)], [], none⟩ := by rw [ho, he3, he4]; exact ok85 h thm rfl rfl 
  have qh : o 78 [sHello e3 e4 (.sp 0 0) (.sp 0 1), sHello e3 e4 (.sp 1 0) (.sp 1 1)] = some ⟨[B true], [], none⟩ := by rw [ho, he3, he4]; exact ok78 h thm rfl rfl  rfl rfl 
  have wm : w.Mid := by rw [hw]; exact pbV_mid thm
  obtain ⟨g0, hg0⟩ : ∃ y_, y_ = row fI w.versions := ⟨_, rfl⟩
  obtain ⟨h0, hh0⟩ : ∃ y_, y_ = row fI ((wHello w 1).versions) := ⟨_, rfl⟩
  obtain ⟨g1, hg1⟩ : ∃ y_, y_ = row fExt w.exts := ⟨_, rfl⟩
  obtain ⟨h1, hh1⟩ : ∃ y_, y_ = row fExt ((wHello w 1).exts) := ⟨_, rfl⟩
  obtain ⟨zz, hzz⟩ : ∃ y_, y_ = 1 + (nHello w : Int) := ⟨_, rfl⟩
  have lr : Lim 1 (nHello w) := Lim.of1 (by have := nHello_mid wm; omega)
  have l2 : lt zz 0 = false := by rw [F.lt, hzz]; simp; omega
  have l3 : ne zz zz = false := F.ne_f rfl
  have a0 : AtK 1 1 0 := AtK.zero
  have y0 := nBox_small tb
  have y1 := nHello_small th
  have lk : Lim 1 (0 + nBox b + nHello h) := Lim.of1 (by omega)
  obtain ⟨z1, hz1⟩ : ∃ y_, y_ = 1 + (nBox b : Int) := ⟨_, rfl⟩
  have a1 : AtK z1 1 (0 + nBox b) := hz1 ▸ a0.plus
  have v1m : Lim 1 (nBox b) := a0.lim lk (by omega)
  obtain ⟨x0_0, hx0_0⟩ : ∃ y_, y_ = row fI ((wBox b 1).drops) := ⟨_, rfl⟩
  obtain ⟨x0_1, hx0_1⟩ : ∃ y_, y_ = row fI ((wBox b 1).strips) := ⟨_, rfl⟩
  have n1 : o 1175 [sBox b.limit e1 e2 b.lists (.mp 0) (.mp 1), I 1] = some ⟨[I z1], [.row () x0_0, .row () x0_1], none⟩ := by rw [ho, hz1, he1, he2, hx0_0, hx0_1]; exact ok1175 b _ v1m tbm
  obtain ⟨z2, hz2⟩ : ∃ y_, y_ = z1 + (nHello h : Int) := ⟨_, rfl⟩
  have a2 : AtK z2 1 (0 + nBox b + nHello h) := hz2 ▸ a1.plus
  have v2m : Lim z1 (nHello h) := a1.lim lk (by omega)
  obtain ⟨x1_0, hx1_0⟩ : ∃ y_, y_ = row fI ((wHello h z1).versions) := ⟨_, rfl⟩
  obtain ⟨x1_1, hx1_1⟩ : ∃ y_, y_ = row fExt ((wHello h z1).exts) := ⟨_, rfl⟩
  have n2 : o 1081 [sHello e3 e4 (.mp 0) (.mp 1), I z1] = some ⟨[I z2], [.row () x1_0, .row () x1_1], none⟩ := by rw [ho, hz2, he3, he4, hx1_0, hx1_1]; exact ok1081 h _ v2m thm
  have l1 : lt z2 0 = false := by rw [F.lt]; have := a2.same; simp; omega
  have hs : (fix Tb md 173 [sBox b.limit (row fI b.drops) (row fI b.strips) b.lists (.sp 0 1) (.sp 0 2), sHello (row fI h.versions) (row fExt h.exts) (.sp 1 0) (.sp 1 1)] = some ⟨[sHello (row fI w.versions) (row fExt w.exts) (.ow false) (.ow false), B w1], [], none⟩) ∨ (w.exts = [] ∧ fix Tb md 173 [sBox b.limit (row fI b.drops) (row fI b.strips) b.lists (.sp 0 1) (.sp 0 2), sHello (row fI h.versions) (row fExt h.exts) (.sp 1 0) (.sp 1 1)] = some ⟨[sHello (row fI w.versions) [] (.ow false) .nl, B w1], [], none⟩) ∨ (w.versions = [] ∧ w.exts = [] ∧ fix Tb md 173 [sBox b.limit (row fI b.drops) (row fI b.strips) b.lists (.sp 0 1) (.sp 0 2), sHello (row fI h.versions) (row fExt h.exts) (.sp 1 0) (.sp 1 1)] = some ⟨[sHello [] [] .nl .nl, B w1], [], none⟩) := by rw [hw, hw1]; exact ok173 b h (by omega) (by omega) thm rfl rfl rfl rfl
  have hi : (fix Tb md 174 [sBox b.limit (row fI b.drops) (row fI b.strips) b.lists (.sp 0 1) (.sp 0 2), sHello (row fI h.versions) (row fExt h.exts) (.sp 1 0) (.sp 1 1)] = some ⟨[sHello (row fI w.versions) (row fExt w.exts) (.ow false) (.ow false), B w1], [], none⟩) ∨ (w.versions = [] ∧ w.exts = [] ∧ fix Tb md 174 [sBox b.limit (row fI b.drops) (row fI b.strips) b.lists (.sp 0 1) (.sp 0 2), sHello (row fI h.versions) (row fExt h.exts) (.sp 1 0) (.sp 1 1)] = some ⟨[sHello [] [] .nl .nl, B w1], [], none⟩) := by rw [hw, hw1]; exact ok174 b h (by omega) (by omega) thm rfl rfl rfl rfl
  rcases hs with hs | ⟨ns1, hs⟩ | ⟨ns0, ns1, hs⟩
  · rcases hi with hi | ⟨ni0, ni1, hi⟩
    · have m1 : o 173 [sBox b.limit e1 e2 b.lists (.sp 0 1) (.sp 0 2), sHello e3 e4 (.sp 1 0) (.sp 1 1)] = some ⟨[sHello g0 g1 (.ow false) (.ow false), B w1], [], none⟩ := by rw [ho, he1, he2, he3, he4]; simp only [hg0, hg1]; exact hs
      have m2 : o 174 [sBox b.limit e1 e2 b.lists (.sp 0 1) (.sp 0 2), sHello e3 e4 (.sp 1 0) (.sp 1 1)] = some ⟨[sHello g0 g1 (.ow false) (.ow false), B w1], [], none⟩ := by rw [ho, he1, he2, he3, he4]; simp only [hg0, hg1]; exact hi
      have r1 : o 78 [sHello g0 g1 (.sp 0 0) (.sp 0 1), sHello g0 g1 (.sp 1 0) (.sp 1 1)] = some ⟨[B true], [], none⟩ := by
        have h := ok78 w wm (f0 := (.sp 0 0)) (g0 := (.sp 1 0)) (f1 := (.sp 0 1)) (g1 := (.sp 1 1)) rfl rfl rfl rfl 
        rw [ho]
        try simp only [hg0, hg1]
        exact h
      have r2 : o 1081 [sHello g0 g1 (.mp 0) (.mp 1), I 1] = some ⟨[I zz], [.row () h0, .row () h1], none⟩ := by
        have h := ok1081 w 1 lr wm
        rw [ho, hzz]
        try simp only [hg0, hg1, hh0, hh1]
        exact h
      have r3 : o 82 [sHello h0 h1 (.sp 0 0) (.sp 0 1), I 1] = some ⟨[I zz], [], none⟩ := by
        have h := ok82 w 1 lr wm (f0 := (.sp 0 0)) (f1 := (.sp 0 1)) rfl rfl 
        rw [ho, hzz]
        try simp only [hh0, hh1]
        exact h
      try (rw [kb]; cbv)
      try (rw [kh]; cbv)
      try (rw [m1]; cbv)
      try (rw [kb]; cbv)
      try (rw [kh]; cbv)
      try (rw [m2]; cbv)
      try (rw [r1]; cbv)
      try (rw [show not true = false by rw [F.not]; rfl]; cbv)
      try (rw [show not (beq w1 w1) = false by rw [F.not, F.beq]; simp]; cbv)
      try (rw [kb]; cbv)
      try (rw [qb]; cbv)
      try (rw [show not true = false by rw [F.not]; rfl]; cbv)
      try (rw [kh]; cbv)
      try (rw [qh]; cbv)
      try (rw [show not true = false by rw [F.not]; rfl]; cbv)
      try (rw [n1]; cbv)
      try (rw [n2]; cbv)
      try (rw [l1]; cbv)
      try (rw [r1]; cbv)
      try (rw [show not true = false by rw [F.not]; rfl]; cbv)
      try (rw [show not (beq w1 w1) = false by rw [F.not, F.beq]; simp]; cbv)
      try (rw [r2]; cbv)
      try (rw [r3]; cbv)
      try (rw [l2]; cbv)
      try (rw [l3]; cbv)
      try (rw [kb]; cbv)
      try (rw [kh]; cbv)
      try (rw [m2]; cbv)
      try (rw [r1]; cbv)
      try (rw [show not true = false by rw [F.not]; rfl]; cbv)
      try (rw [show not (beq w1 w1) = false by rw [F.not, F.beq]; simp]; cbv)
      try (rw [r3]; cbv)
      try (rw [l2]; cbv)
      try (rw [l3]; cbv)
      repeat' (first | (rw [kb]; cbv) | (rw [qb]; cbv) | (rw [kh]; cbv) | (rw [qh]; cbv) | (rw [m1]; cbv) | (rw [m2]; cbv) | (rw [r1]; cbv) | (rw [n1]; cbv) | (rw [n2]; cbv) | (rw [r2]; cbv) | (rw [r3]; cbv) | (rw [l1]; cbv) | (rw [l2]; cbv) | (rw [l3]; cbv) | (rw [F.ne_f rfl]; cbv) | (rw [show not (beq w1 w1) = false by rw [F.not, F.beq]; simp]; cbv) | (rw [show not true = false by rw [F.not]; rfl]; cbv) | (rw [hQ]; cbv; exact congrArg some hr))
    · have m1 : o 173 [sBox b.limit e1 e2 b.lists (.sp 0 1) (.sp 0 2), sHello e3 e4 (.sp 1 0) (.sp 1 1)] = some ⟨[sHello g0 g1 (.ow false) (.ow false), B w1], [], none⟩ := by rw [ho, he1, he2, he3, he4]; simp only [hg0, hg1]; exact hs
      have m2 : o 174 [sBox b.limit e1 e2 b.lists (.sp 0 1) (.sp 0 2), sHello e3 e4 (.sp 1 0) (.sp 1 1)] = some ⟨[sHello [] [] .nl .nl, B w1], [], none⟩ := by rw [ho, he1, he2, he3, he4]; exact hi
      have r1 : o 78 [sHello [] [] .nl .nl, sHello g0 g1 (.sp 1 0) (.sp 1 1)] = some ⟨[B true], [], none⟩ := by
        have h := ok78 w wm (f0 := .nl) (g0 := (.sp 1 0)) (f1 := .nl) (g1 := (.sp 1 1)) rfl rfl rfl rfl 
        try simp only [ni0, ni1] at h
        rw [ho]
        try simp only [hg0, hg1, ni0, ni1]
        exact h
      have r2 : o 1081 [sHello [] [] .nl .nl, I 1] = some ⟨[I zz], [], none⟩ := by
        have h := ok1081_nn w 1 lr wm ni0 ni1
        try simp only [wHello, mI, mExtS, ni0, ni1] at h
        rw [ho, hzz]
        try simp only [wHello, mI, mExtS, ni0, ni1]
        exact h
      have r3 : o 82 [sHello [] [] .nl .nl, I 1] = some ⟨[I zz], [], none⟩ := by
        have h := ok82 w 1 lr wm (f0 := .nl) (f1 := .nl) rfl rfl 
        try simp only [wHello, mI, mExtS, ni0, ni1] at h
        rw [ho, hzz]
        try simp only [wHello, mI, mExtS, ni0, ni1]
        exact h
      try (rw [kb]; cbv)
      try (rw [kh]; cbv)
      try (rw [m1]; cbv)
      try (rw [kb]; cbv)
      try (rw [kh]; cbv)
      try (rw [m2]; cbv)
      try (rw [r1]; cbv)
      try (rw [show not true = false by rw [F.not]; rfl]; cbv)
      try (rw [show not (beq w1 w1) = false by rw [F.not, F.beq]; simp]; cbv)
      try (rw [kb]; cbv)
      try (rw [qb]; cbv)
      try (rw [show not true = false by rw [F.not]; rfl]; cbv)
      try (rw [kh]; cbv)
      try (rw [qh]; cbv)
      try (rw [show not true = false by rw [F.not]; rfl]; cbv)
      try (rw [n1]; cbv)
      try (rw [n2]; cbv)
      try (rw [l1]; cbv)
      try (rw [r1]; cbv)
      try (rw [show not true = false by rw [F.not]; rfl]; cbv)
      try (rw [show not (beq w1 w1) = false by rw [F.not, F.beq]; simp]; cbv)
      try (rw [r2]; cbv)
      try (rw [r3]; cbv)
      try (rw [l2]; cbv)
      try (rw [l3]; cbv)
      try (rw [kb]; cbv)
      try (rw [kh]; cbv)
      try (rw [m2]; cbv)
      try (rw [r1]; cbv)
      try (rw [show not true = false by rw [F.not]; rfl]; cbv)
      try (rw [show not (beq w1 w1) = false by rw [F.not, F.beq]; simp]; cbv)
      try (rw [r3]; cbv)
      try (rw [l2]; cbv)
      try (rw [l3]; cbv)
      repeat' (first | (rw [kb]; cbv) | (rw [qb]; cbv) | (rw [kh]; cbv) | (rw [qh]; cbv) | (rw [m1]; cbv) | (rw [m2]; cbv) | (rw [r1]; cbv) | (rw [n1]; cbv) | (rw [n2]; cbv) | (rw [r2]; cbv) | (rw [r3]; cbv) | (rw [l1]; cbv) | (rw [l2]; cbv) | (rw [l3]; cbv) | (rw [F.ne_f rfl]; cbv) | (rw [show not (beq w1 w1) = false by rw [F.not, F.beq]; simp]; cbv) | (rw [show not true = false by rw [F.not]; rfl]; cbv) | (rw [hQ]; cbv; exact congrArg some hr))
  · rcases hi with hi | ⟨ni0, ni1, hi⟩
    · have m1 : o 173 [sBox b.limit e1 e2 b.lists (.sp 0 1) (.sp 0 2), sHello e3 e4 (.sp 1 0) (.sp 1 1)] = some ⟨[sHello g0 [] (.ow false) .nl, B w1], [], none⟩ := by rw [ho, he1, he2, he3, he4]; simp only [hg0]; exact hs
      have m2 : o 174 [sBox b.limit e1 e2 b.lists (.sp 0 1) (.sp 0 2), sHello e3 e4 (.sp 1 0) (.sp 1 1)] = some ⟨[sHello g0 g1 (.ow false) (.ow false), B w1], [], none⟩ := by rw [ho, he1, he2, he3, he4]; simp only [hg0, hg1]; exact hi
      have r1 : o 78 [sHello g0 g1 (.sp 0 0) (.sp 0 1), sHello g0 [] (.sp 1 0) .nl] = some ⟨[B true], [], none⟩ := by
        have h := ok78 w wm (f0 := (.sp 0 0)) (g0 := (.sp 1 0)) (f1 := (.sp 0 1)) (g1 := .nl) rfl rfl rfl rfl 
        try simp only [ns1] at h
        rw [ho]
        try simp only [hg0, hg1, ns1]
        exact h
      have r2 : o 1081 [sHello g0 g1 (.mp 0) (.mp 1), I 1] = some ⟨[I zz], [.row () h0, .row () h1], none⟩ := by
        have h := ok1081 w 1 lr wm
        rw [ho, hzz]
        try simp only [hg0, hg1, hh0, hh1]
        exact h
      have r3 : o 82 [sHello h0 h1 (.sp 0 0) (.sp 0 1), I 1] = some ⟨[I zz], [], none⟩ := by
        have h := ok82 w 1 lr wm (f0 := (.sp 0 0)) (f1 := (.sp 0 1)) rfl rfl 
        rw [ho, hzz]
        try simp only [hh0, hh1]
        exact h
      try (rw [kb]; cbv)
      try (rw [kh]; cbv)
      try (rw [m1]; cbv)
      try (rw [kb]; cbv)
      try (rw [kh]; cbv)
      try (rw [m2]; cbv)
      try (rw [r1]; cbv)
      try (rw [show not true = false by rw [F.not]; rfl]; cbv)
      try (rw [show not (beq w1 w1) = false by rw [F.not, F.beq]; simp]; cbv)
      try (rw [kb]; cbv)
      try (rw [qb]; cbv)
      try (rw [show not true = false by rw [F.not]; rfl]; cbv)
      try (rw [kh]; cbv)
      try (rw [qh]; cbv)
      try (rw [show not true = false by rw [F.not]; rfl]; cbv)
      try (rw [n1]; cbv)
      try (rw [n2]; cbv)
      try (rw [l1]; cbv)
      try (rw [r1]; cbv)
      try (rw [show not true = false by rw [F.not]; rfl]; cbv)
      try (rw [show not (beq w1 w1) = false by rw [F.not, F.beq]; simp]; cbv)
      try (rw [r2]; cbv)
      try (rw [r3]; cbv)
      try (rw [l2]; cbv)
      try (rw [l3]; cbv)
      try (rw [kb]; cbv)
      try (rw [kh]; cbv)
      try (rw [m2]; cbv)
      try (rw [r1]; cbv)
      try (rw [show not true = false by rw [F.not]; rfl]; cbv)
      try (rw [show not (beq w1 w1) = false by rw [F.not, F.beq]; simp]; cbv)
      try (rw [r3]; cbv)
      try (rw [l2]; cbv)
      try (rw [l3]; cbv)
      repeat' (first | (rw [kb]; cbv) | (rw [qb]; cbv) | (rw [kh]; cbv) | (rw [qh]; cbv) | (rw [m1]; cbv) | (rw [m2]; cbv) | (rw [r1]; cbv) | (rw [n1]; cbv) | (rw [n2]; cbv) | (rw [r2]; cbv) | (rw [r3]; cbv) | (rw [l1]; cbv) | (rw [l2]; cbv) | (rw [l3]; cbv) | (rw [F.ne_f rfl]; cbv) | (rw [show not (beq w1 w1) = false by rw [F.not, F.beq]; simp]; cbv) | (rw [show not true = false by rw [F.not]; rfl]; cbv) | (rw [hQ]; cbv; exact congrArg some hr))
    · have m1 : o 173 [sBox b.limit e1 e2 b.lists (.sp 0 1) (.sp 0 2), sHello e3 e4 (.sp 1 0) (.sp 1 1)] = some ⟨[sHello g0 [] (.ow false) .nl, B w1], [], none⟩ := by rw [ho, he1, he2, he3, he4]; simp only [hg0]; exact hs
      have m2 : o 174 [sBox b.limit e1 e2 b.lists (.sp 0 1) (.sp 0 2), sHello e3 e4 (.sp 1 0) (.sp 1 1)] = some ⟨[sHello [] [] .nl .nl, B w1], [], none⟩ := by rw [ho, he1, he2, he3, he4]; exact hi
      have r1 : o 78 [sHello [] [] .nl .nl, sHello g0 [] (.sp 1 0) .nl] = some ⟨[B true], [], none⟩ := by
        have h := ok78 w wm (f0 := .nl) (g0 := (.sp 1 0)) (f1 := .nl) (g1 := .nl) rfl rfl rfl rfl 
        try simp only [ni0, ni1] at h
        rw [ho]
        try simp only [hg0, hg1, ni0, ni1]
        exact h
      have r2 : o 1081 [sHello [] [] .nl .nl, I 1] = some ⟨[I zz], [], none⟩ := by
        have h := ok1081_nn w 1 lr wm ni0 ni1
        try simp only [wHello, mI, mExtS, ni0, ni1] at h
        rw [ho, hzz]
        try simp only [wHello, mI, mExtS, ni0, ni1]
        exact h
      have r3 : o 82 [sHello [] [] .nl .nl, I 1] = some ⟨[I zz], [], none⟩ := by
        have h := ok82 w 1 lr wm (f0 := .nl) (f1 := .nl) rfl rfl 
        try simp only [wHello, mI, mExtS, ni0, ni1] at h
        rw [ho, hzz]
        try simp only [wHello, mI, mExtS, ni0, ni1]
        exact h
      try (rw [kb]; cbv)
      try (rw [kh]; cbv)
      try (rw [m1]; cbv)
      try (rw [kb]; cbv)
      try (rw [kh]; cbv)
      try (rw [m2]; cbv)
      try (rw [r1]; cbv)
      try (rw [show not true = false by rw [F.not]; rfl]; cbv)
      try (rw [show not (beq w1 w1) = false by rw [F.not, F.beq]; simp]; cbv)
      try (rw [kb]; cbv)
      try (rw [qb]; cbv)
      try (rw [show not true = false by rw [F.not]; rfl]; cbv)
      try (rw [kh]; cbv)
      try (rw [qh]; cbv)
      try (rw [show not true = false by rw [F.not]; rfl]; cbv)
      try (rw [n1]; cbv)
      try (rw [n2]; cbv)
      try (rw [l1]; cbv)
      try (rw [r1]; cbv)
      try (rw [show not true = false by rw [F.not]; rfl]; cbv)
      try (rw [show not (beq w1 w1) = false by rw [F.not, F.beq]; simp]; cbv)
      try (rw [r2]; cbv)
      try (rw [r3]; cbv)
      try (rw [l2]; cbv)
      try (rw [l3]; cbv)
      try (rw [kb]; cbv)
      try (rw [kh]; cbv)
      try (rw [m2]; cbv)
      try (rw [r1]; cbv)
      try (rw [show not true = false by rw [F.not]; rfl]; cbv)
      try (rw [show not (beq w1 w1) = false by rw [F.not, F.beq]; simp]; cbv)
      try (rw [r3]; cbv)
      try (rw [l2]; cbv)
      try (rw [l3]; cbv)
      repeat' (first | (rw [kb]; cbv) | (rw [qb]; cbv) | (rw [kh]; cbv) | (rw [qh]; cbv) | (rw [m1]; cbv) | (rw [m2]; cbv) | (rw [r1]; cbv) | (rw [n1]; cbv) | (rw [n2]; cbv) | (rw [r2]; cbv) | (rw [r3]; cbv) | (rw [l1]; cbv) | (rw [l2]; cbv) | (rw [l3]; cbv) | (rw [F.ne_f rfl]; cbv) | (rw [show not (beq w1 w1) = false by rw [F.not, F.beq]; simp]; cbv) | (rw [show not true = false by rw [F.not]; rfl]; cbv) | (rw [hQ]; cbv; exact congrArg some hr))
  · rcases hi with hi | ⟨ni0, ni1, hi⟩
    · have m1 : o 173 [sBox b.limit e1 e2 b.lists (.sp 0 1) (.sp 0 2), sHello e3 e4 (.sp 1 0) (.sp 1 1)] = some ⟨[sHello [] [] .nl .nl, B w1], [], none⟩ := by rw [ho, he1, he2, he3, he4]; exact hs
      have m2 : o 174 [sBox b.limit e1 e2 b.lists (.sp 0 1) (.sp 0 2), sHello e3 e4 (.sp 1 0) (.sp 1 1)] = some ⟨[sHello g0 g1 (.ow false) (.ow false), B w1], [], none⟩ := by rw [ho, he1, he2, he3, he4]; simp only [hg0, hg1]; exact hi
      have r1 : o 78 [sHello g0 g1 (.sp 0 0) (.sp 0 1), sHello [] [] .nl .nl] = some ⟨[B true], [], none⟩ := by
        have h := ok78 w wm (f0 := (.sp 0 0)) (g0 := .nl) (f1 := (.sp 0 1)) (g1 := .nl) rfl rfl rfl rfl 
        try simp only [ns0, ns1] at h
        rw [ho]
        try simp only [hg0, hg1, ns0, ns1]
        exact h
      have r2 : o 1081 [sHello g0 g1 (.mp 0) (.mp 1), I 1] = some ⟨[I zz], [.row () h0, .row () h1], none⟩ := by
        have h := ok1081 w 1 lr wm
        rw [ho, hzz]
        try simp only [hg0, hg1, hh0, hh1]
        exact h
      have r3 : o 82 [sHello h0 h1 (.sp 0 0) (.sp 0 1), I 1] = some ⟨[I zz], [], none⟩ := by
        have h := ok82 w 1 lr wm (f0 := (.sp 0 0)) (f1 := (.sp 0 1)) rfl rfl 
        rw [ho, hzz]
        try simp only [hh0, hh1]
        exact h
      try (rw [kb]; cbv)
      try (rw [kh]; cbv)
      try (rw [m1]; cbv)
      try (rw [kb]; cbv)
      try (rw [kh]; cbv)
      try (rw [m2]; cbv)
      try (rw [r1]; cbv)
      try (rw [show not true = false by rw [F.not]; rfl]; cbv)
      try (rw [show not (beq w1 w1) = false by rw [F.not, F.beq]; simp]; cbv)
      try (rw [kb]; cbv)
      try (rw [qb]; cbv)
      try (rw [show not true = false by rw [F.not]; rfl]; cbv)
      try (rw [kh]; cbv)
      try (rw [qh]; cbv)
      try (rw [show not true = false by rw [F.not]; rfl]; cbv)
      try (rw [n1]; cbv)
      try (rw [n2]; cbv)
      try (rw [l1]; cbv)
      try (rw [r1]; cbv)
      try (rw [show not true = false by rw [F.not]; rfl]; cbv)
      try (rw [show not (beq w1 w1) = false by rw [F.not, F.beq]; simp]; cbv)
      try (rw [r2]; cbv)
      try (rw [r3]; cbv)
      try (rw [l2]; cbv)
      try (rw [l3]; cbv)
      try (rw [kb]; cbv)
      try (rw [kh]; cbv)
      try (rw [m2]; cbv)
      try (rw [r1]; cbv)
      try (rw [show not true = false by rw [F.not]; rfl]; cbv)
      try (rw [show not (beq w1 w1) = false by rw [F.not, F.beq]; simp]; cbv)
      try (rw [r3]; cbv)
      try (rw [l2]; cbv)
      try (rw [l3]; cbv)
      repeat' (first | (rw [kb]; cbv) | (rw [qb]; cbv) | (rw [kh]; cbv) | (rw [qh]; cbv) | (rw [m1]; cbv) | (rw [m2]; cbv) | (rw [r1]; cbv) | (rw [n1]; cbv) | (rw [n2]; cbv) | (rw [r2]; cbv) | (rw [r3]; cbv) | (rw [l1]; cbv) | (rw [l2]; cbv) | (rw [l3]; cbv) | (rw [F.ne_f rfl]; cbv) | (rw [show not (beq w1 w1) = false by rw [F.not, F.beq]; simp]; cbv) | (rw [show not true = false by rw [F.not]; rfl]; cbv) | (rw [hQ]; cbv; exact congrArg some hr))
    · have m1 : o 173 [sBox b.limit e1 e2 b.lists (.sp 0 1) (.sp 0 2), sHello e3 e4 (.sp 1 0) (.sp 1 1)] = some ⟨[sHello [] [] .nl .nl, B w1], [], none⟩ := by rw [ho, he1, he2, he3, he4]; exact hs
      have m2 : o 174 [sBox b.limit e1 e2 b.lists (.sp 0 1) (.sp 0 2), sHello e3 e4 (.sp 1 0) (.sp 1 1)] = some ⟨[sHello [] [] .nl .nl, B w1], [], none⟩ := by rw [ho, he1, he2, he3, he4]; exact hi
      have r1 : o 78 [sHello [] [] .nl .nl, sHello [] [] .nl .nl] = some ⟨[B true], [], none⟩ := by
        have h := ok78 w wm (f0 := .nl) (g0 := .nl) (f1 := .nl) (g1 := .nl) rfl rfl rfl rfl 
        try simp only [ni0, ni1] at h
        rw [ho]
        try simp only [hg0, hg1, ni0, ni1]
        exact h
      have r2 : o 1081 [sHello [] [] .nl .nl, I 1] = some ⟨[I zz], [], none⟩ := by
        have h := ok1081_nn w 1 lr wm ni0 ni1
        try simp only [wHello, mI, mExtS, ni0, ni1] at h
        rw [ho, hzz]
        try simp only [wHello, mI, mExtS, ni0, ni1]
        exact h
      have r3 : o 82 [sHello [] [] .nl .nl, I 1] = some ⟨[I zz], [], none⟩ := by
        have h := ok82 w 1 lr wm (f0 := .nl) (f1 := .nl) rfl rfl 
        try simp only [wHello, mI, mExtS, ni0, ni1] at h
        rw [ho, hzz]
        try simp only [wHello, mI, mExtS, ni0, ni1]
        exact h
      try (rw [kb]; cbv)
      try (rw [kh]; cbv)
      try (rw [m1]; cbv)
      try (rw [kb]; cbv)
      try (rw [kh]; cbv)
      try (rw [m2]; cbv)
      try (rw [r1]; cbv)
      try (rw [show not true = false by rw [F.not]; rfl]; cbv)
      try (rw [show not (beq w1 w1) = false by rw [F.not, F.beq]; simp]; cbv)
      try (rw [kb]; cbv)
      try (rw [qb]; cbv)
      try (rw [show not true = false by rw [F.not]; rfl]; cbv)
      try (rw [kh]; cbv)
      try (rw [qh]; cbv)
      try (rw [show not true = false by rw [F.not]; rfl]; cbv)
      try (rw [n1]; cbv)
      try (rw [n2]; cbv)
      try (rw [l1]; cbv)
      try (rw [r1]; cbv)
      try (rw [show not true = false by rw [F.not]; rfl]; cbv)
      try (rw [show not (beq w1 w1) = false by rw [F.not, F.beq]; simp]; cbv)
      try (rw [r2]; cbv)
      try (rw [r3]; cbv)
      try (rw [l2]; cbv)
      try (rw [l3]; cbv)
      try (rw [kb]; cbv)
      try (rw [kh]; cbv)
      try (rw [m2]; cbv)
      try (rw [r1]; cbv)
      try (rw [show not true = false by rw [F.not]; rfl]; cbv)
      try (rw [show not (beq w1 w1) = false by rw [F.not, F.beq]; simp]; cbv)
      try (rw [r3]; cbv)
      try (rw [l2]; cbv)
      try (rw [l3]; cbv)
      repeat' (first | (rw [kb]; cbv) | (rw [qb]; cbv) | (rw [kh]; cbv) | (rw [qh]; cbv) | (rw [m1]; cbv) | (rw [m2]; cbv) | (rw [r1]; cbv) | (rw [n1]; cbv) | (rw [n2]; cbv) | (rw [r2]; cbv) | (rw [r3]; cbv) | (rw [l1]; cbv) | (rw [l2]; cbv) | (rw [l3]; cbv) | (rw [F.ne_f rfl]; cbv) | (rw [show not (beq w1 w1) = false by rw [F.not, F.beq]; simp]; cbv) | (rw [show not true = false by rw [F.not]; rfl]; cbv) | (rw [hQ]; cbv; exact congrArg some hr))
theorem ans38 : Answers Tb md 38 [(true, [.int .i64, .row [.int .i64], .row [.int .i64], .bool]), (true, [.row [.int .i64], .row [.int .i64, .row [.int .i64]]])] := answers_of (by
  intro vs h_
  obtain ⟨b, rfl, wb⟩ := fitL_Box h_
  intro vs h_
  obtain ⟨h, rfl, wh⟩ := fitL_Hello h_
  exact law38 b wb h wh)

end Go.Vm
