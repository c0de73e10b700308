/- What the law answers. -/
import Derived.Test.YthfbmkhjanmeaaaGCTab
import Derived.Test.YthfbmkhjanmeaaaGCFA
import Derived.Test.YthfbmkhjanmeaaaGCFB
import Derived.Test.YthfbmkhjanmeaaaGCFC
import Derived.Test.YthfbmkhjanmeaaaGCFD
import Derived.Test.YthfbmkhjanmeaaaGCFF
import Derived.Test.YthfbmkhjanmeaaaGCFG
import Derived.Test.YthfbmkhjanmeaaaGCFH
import Derived.Test.YthfbmkhjanmeaaaGCFI
set_option maxHeartbeats 4000000
set_option maxRecDepth 10000
set_option linter.unusedVariables false
set_option linter.unusedSimpArgs false
namespace Go.Vm
theorem law40a (eb : List (List V)) (h : Hello) (p : List Box) (k1 : fix Tb md 108 [R eb (.sp 0 0)] = some ⟨[B false], [], none⟩) (k2 : fix Tb md 183 [R eb (.sp 0 0)] = some ⟨[sHello (row fI h.versions) (row fExt h.exts) (.ow false) (.ow false), R (row fBox p) (.ow false)], [], none⟩) (mh : h.Mid) (pl : p.length ≤ 1073741824) (pm : ∀ y ∈ p, y.Mid) (hh : isHel h = false) :
  fix Tb md 40 [R eb (.sp 0 0)] = some ⟨[B true], [], none⟩ := by
 have h0 : inFl (.sp 0 0) = true := rfl
 have mh' : ∀ y ∈ h.exts, y.body.length ≤ 1099511627776 := fun y hy => Nat.le_trans (mh.2.2 y hy) (by decide)
 obtain ⟨f, g, hF, k3⟩ := ok184 h p mh pl pm (f0 := .sp 0 0) (f1 := .sp 0 1) (f2 := .sp 1 0) rfl rfl rfl
 have k4 := ok113 h (Nat.le_trans mh.1 (by decide)) (Nat.le_trans mh.2.1 (by decide)) mh' (f0 := .sp 0 0) (f1 := .sp 0 1) rfl rfl
 have k5 := ok142 h (Nat.le_trans mh.1 (by decide)) (Nat.le_trans mh.2.1 (by decide)) mh' (f0 := .sp 0 0) (f1 := .sp 0 1) rfl rfl
 obtain ⟨a1, a2, _⟩ := hf_a (path := p) hh
 rw [a1, a2] at k3
 rw [hh] at k4 k5
 generalize hr : (⟨_, [], none⟩ : Ret) = r
 obtain ⟨ep, hep⟩ := nm (row fBox p)
 obtain ⟨ev, hev⟩ := nm (row fI h.versions)
 obtain ⟨ex, hex⟩ := nm (row fExt h.exts)
 obtain ⟨y1, hy1⟩ := nm (row fI (hfV h p).versions)
 obtain ⟨y2, hy2⟩ := nm (row fExt (hfV h p).exts)
 rw [← hep, ← hev, ← hex] at k2
 rw [← hep, ← hev, ← hex, ← hy1, ← hy2] at k3
 rw [← hev, ← hex] at k4 k5
 have K3 := hF.tri (fun f g => fix Tb md 184 [sHello ev ex (.sp 0 0) (.sp 0 1), R ep (.sp 1 0)] = some ⟨[sHello y1 y2 f g, I 0, B false], [], none⟩) k3
 clear k3
 refine fix_fn2 (fn := ir40) tb_40 rfl rfl (by decide) rfl ?_; intro Q hQ; simp only [shutArgs, shutS, List.map_cons, List.map_nil, ir40, shut_in h0, List.head?_nil, reduceCtorEq, if_false, sExt, sHello, sAnswer, sEdit, sDeal, sBox, sDialed, sKnown]
 intro add sub mul arith eq ne lt le gt ge neg conv mn mx not beq len at' ln bd cut app allS isNil mks set o hP F ho
 rw [← ho] at k1 k2 K3 k4 k5
 have g5 : not false = true := by rw [F.not]; rfl
 have g6 : eq 0 0 = true := by rw [F.eq]; rfl
 rcases K3 with k3 | k3 | k3
 all_goals
  cbv
  rw [k1]; cbv
  rw [k2]; cbv
  rw [k3]; cbv
  rw [k4]; cbv
  rw [g5]; cbv
  rw [g5]; cbv
  rw [g6]; cbv
  rw [k5]; cbv
  try (rw [g5]; cbv)
  rw [hQ]; cbv
  exact congrArg some hr
theorem law40b (eb : List (List V)) (h : Hello) (p : List Box) (k1 : fix Tb md 108 [R eb (.sp 0 0)] = some ⟨[B false], [], none⟩) (k2 : fix Tb md 183 [R eb (.sp 0 0)] = some ⟨[sHello (row fI h.versions) (row fExt h.exts) (.ow false) (.ow false), R (row fBox p) (.ow false)], [], none⟩) (mh : h.Mid) (pl : p.length ≤ 4) (pm : ∀ y ∈ p, y.Mid) (hh : isHel h = true) (hq : hfOk h p = false) :
  fix Tb md 40 [R eb (.sp 0 0)] = some ⟨[B true], [], none⟩ := by
 have h0 : inFl (.sp 0 0) = true := rfl
 have mh' : ∀ y ∈ h.exts, y.body.length ≤ 1099511627776 := fun y hy => Nat.le_trans (mh.2.2 y hy) (by decide)
 obtain ⟨f, g, hF, k3⟩ := ok184 h p mh (by omega) pm (f0 := .sp 0 0) (f1 := .sp 0 1) (f2 := .sp 1 0) rfl rfl rfl
 have k4 := ok113 h (Nat.le_trans mh.1 (by decide)) (Nat.le_trans mh.2.1 (by decide)) mh' (f0 := .sp 0 0) (f1 := .sp 0 1) rfl rfl
 have k5 := ok171 p h.versions (by omega) pm mh.1 (f0 := .sp 0 0) (f1 := .sp 1 0) rfl rfl
 have n1 := (fl_ok hh pl).1
 rw [hq] at k3 n1
 rw [fl_two hh hq] at k3
 rw [hh] at k4
 obtain ⟨L, hL⟩ := nm (lvs p h.versions)
 rw [← hL] at k5 n1
 generalize hr : (⟨_, [], none⟩ : Ret) = r
 obtain ⟨ep, hep⟩ := nm (row fBox p)
 obtain ⟨ev, hev⟩ := nm (row fI h.versions)
 obtain ⟨ex, hex⟩ := nm (row fExt h.exts)
 obtain ⟨eL, heL⟩ := nm (row fI L)
 obtain ⟨y1, hy1⟩ := nm (row fI (hfV h p).versions)
 obtain ⟨y2, hy2⟩ := nm (row fExt (hfV h p).exts)
 rw [← hep, ← hev, ← hex] at k2
 rw [← hep, ← hev, ← hex, ← hy1, ← hy2] at k3
 rw [← hev, ← hex] at k4
 rw [← hep, ← hev, ← heL] at k5
 have K3 := hF.tri (fun f g => fix Tb md 184 [sHello ev ex (.sp 0 0) (.sp 0 1), R ep (.sp 1 0)] = some ⟨[sHello y1 y2 f g, I 2, B false], [], none⟩) k3
 clear k3
 refine fix_fn2 (fn := ir40) tb_40 rfl rfl (by decide) rfl ?_; intro Q hQ; simp only [shutArgs, shutS, List.map_cons, List.map_nil, ir40, shut_in h0, List.head?_nil, reduceCtorEq, if_false, sExt, sHello, sAnswer, sEdit, sDeal, sBox, sDialed, sKnown]
 intro add sub mul arith eq ne lt le gt ge neg conv mn mx not beq len at' ln bd cut app allS isNil mks set o hP F ho
 rw [← ho] at k1 k2 K3 k4 k5
 have g4 : not true = false := by rw [F.not]; rfl
 have g5 : not false = true := by rw [F.not]; rfl
 have g6 : eq 2 2 = true := by rw [F.eq]; rfl
 have g7 : lt (len eL) (len ev) = false := by
  have m1 := F.len_at heL
  have m2 := F.len_at hev
  unfold At at m1 m2
  rw [F.lt, m1, m2]
  rw [n1]
  simp
 have g8 : not (beq false false) = false := by rw [F.not, F.beq]; rfl
 rcases K3 with k3 | k3 | k3
 all_goals
  cbv
  rw [k1]; cbv
  rw [k2]; cbv
  rw [k3]; cbv
  rw [k4]; cbv
  rw [g4]; cbv
  rw [k5]; cbv
  rw [g7]; cbv
  rw [g8]; cbv
  rw [g5]; cbv
  rw [g6]; cbv
  rw [hQ]; cbv
  exact congrArg some hr
set_option maxHeartbeats 16000000 in
theorem law40c (eb : List (List V)) (h : Hello) (p : List Box) (k1 : fix Tb md 108 [R eb (.sp 0 0)] = some ⟨[B false], [], none⟩) (k2 : fix Tb md 183 [R eb (.sp 0 0)] = some ⟨[sHello (row fI h.versions) (row fExt h.exts) (.ow false) (.ow false), R (row fBox p) (.ow false)], [], none⟩) (mh : h.Mid) (hv5 : h.versions.length ≤ 1000) (hx5 : h.exts.length ≤ 1000) (pl : p.length ≤ 4) (pm : ∀ y ∈ p, y.Mid) (hh : isHel h = true) (hq : hfOk h p = true) :
  fix Tb md 40 [R eb (.sp 0 0)] = some ⟨[B true], [], none⟩ := by
 have h0 : inFl (.sp 0 0) = true := rfl
 have pl' : p.length ≤ 1073741824 := by omega
 have mh' : ∀ y ∈ h.exts, y.body.length ≤ 1099511627776 := fun y hy => Nat.le_trans (mh.2.2 y hy) (by decide)
 have xm : (hfV h p).Mid := hfV_mid mh
 have xm' : ∀ y ∈ (hfV h p).exts, y.body.length ≤ 1099511627776 := fun y hy => Nat.le_trans (xm.2.2 y hy) (by decide)
 obtain ⟨b1, b3, b2, b4⟩ := fl_one hh hq
 have b5 : fbOk h p = true := by rw [(fl_ok hh pl).2, hq]
 have b6 := (fl_ok hh pl).1
 have b7 := fl_mem hh hq
 have b8 := fl_len hh hq
 have xv : (hfV h p).versions ≠ [] := by
  have := ((pw_go b3))
  intro e
  have q := b3
  unfold pw ppOk pp at q
  rw [Bool.and_eq_true] at q
  have q1 := q.1
  split at q1
  ·rename_i w
   rw [Bool.and_eq_true] at w
   have := hel_pos w.1
   rw [e] at this; simp at this
  ·cases q1
 have xl1 : (hfV h p).versions.length ≤ 1048576 := by
  rcases hf_cases h p with e | e
  ·rw [e]; omega
  ·exact Nat.le_trans e.1 (Nat.le_trans (fbV_len h p).1 (by omega))
 have xl2 : (hfV h p).exts.length ≤ 1048576 := by
  rcases hf_cases h p with e | e
  ·rw [e]; omega
  ·exact Nat.le_trans e.2 (Nat.le_trans (fbV_len h p).2 (by omega))
 obtain ⟨f, g, hF, k3⟩ := ok184 h p mh pl' pm (f0 := .sp 0 0) (f1 := .sp 0 1) (f2 := .sp 1 0) rfl rfl rfl
 have k4 := ok113 h (Nat.le_trans mh.1 (by decide)) (Nat.le_trans mh.2.1 (by decide)) mh' (f0 := .sp 0 0) (f1 := .sp 0 1) rfl rfl
 have k5 := ok171 p h.versions pl' pm mh.1 (f0 := .sp 0 0) (f1 := .sp 1 0) rfl rfl
 have k6 := fun {a b : Fl} (qa : inFl a = true) (qb : inFl b = true) => ok148 (hfV h p) h xm.1 mh.1 (Nat.le_trans xm.2.1 (by decide)) (Nat.le_trans mh.2.1 (by decide)) xm' mh' (f0 := a) (f1 := b) (f2 := .sp 1 0) (f3 := .sp 1 1) qa qb rfl rfl
 have k7 := fun {a b : Fl} (qa : inFl a = true) (qb : inFl b = true) => ok185 (hfV h p) p xm pl' pm (f0 := a) (f1 := b) (f2 := .sp 1 0) qa qb rfl
 have k8 := fun {a b : Fl} (qa : inFl a = true) (qb : inFl b = true) => ok131 (hfV h p) h (Nat.le_trans xm.1 (by decide)) (Nat.le_trans xm.2.1 (by decide)) xm' (f0 := a) (f1 := b) (g0 := .sp 1 0) (g1 := .sp 1 1) qa qb rfl rfl
 have k9 := ok104 p (by omega) (f0 := .sp 0 0) rfl
 have k10 := fun {c d : Fl} (qc : inFl c = true) (qd : inFl d = true) => ok150 h (hfV h p) (by omega) xl1 (by omega) xl2 (f0 := .sp 0 0) (f1 := .sp 0 1) (f2 := c) (f3 := d) rfl rfl qc qd
 have k11 := ok187 h.versions (lvs p h.versions) (by omega) (by have := @lvs_len p h.versions; omega) (f0 := .sp 0 0) (f1 := .sp 1 0) rfl rfl
 have lv : (leftV h.versions (lvs p h.versions)).length ≤ 1000 := Nat.le_trans (List.length_filter_le _ _) hv5
 have k12 := ok186 p (leftV h.versions (lvs p h.versions)) h.exts pl' pm (by omega) (by omega) mh.2.2 (f0 := .sp 0 0) (f1 := .sp 1 0) (f2 := .sp 2 0) rfl rfl rfl
 have lL : (lvs p h.versions).length ≤ 1000 := Nat.le_trans lvs_len hv5
 have lT : (ltags p (leftV h.versions (lvs p h.versions)) h.exts).length ≤ 1000 := Nat.le_trans ltags_len hx5
 have k13 := fun n => ok188 (lvs p h.versions) n (by omega) (f0 := .sp 0 0) rfl
 have k14 := fun n => ok188 (ltags p (leftV h.versions (lvs p h.versions)) h.exts) n (by omega) (f0 := .sp 0 0) rfl
 obtain ⟨f', g', hF', k15⟩ := ok189 h p mh pl' pm (f0 := .sp 0 0) (f1 := .sp 0 1) (f2 := .sp 1 0) rfl rfl rfl
 have k16 := fun {a b c d : Fl} (qa : inFl a = true) (qb : inFl b = true) (qc : inFl c = true) (qd : inFl d = true) => ok131 (hfV h p) (hfV h p) (Nat.le_trans xm.1 (by decide)) (Nat.le_trans xm.2.1 (by decide)) xm' (f0 := a) (f1 := b) (g0 := c) (g1 := d) qa qb qc qd
 have c1 := fun c => fl_clear (p := p) hh c
 rw [hq] at k3 b6
 rw [b1, b5] at k15
 rw [b1] at hF'
 rw [hh] at k4
 rw [b2] at k6
 rw [b3] at k7
 rw [decide_eq_true rfl] at k16
 obtain ⟨X, hX⟩ := nm (hfV h p)
 obtain ⟨L, hL⟩ := nm (lvs p h.versions)
 obtain ⟨e, he⟩ := nm (decide (X = h))
 obtain ⟨n, hn⟩ := nm (hfN h p)
 obtain ⟨c, hc⟩ := nm (isCP p)
 rw [← hX] at k3 k6 k7 k8 k10 k15 k16 hF hF' xv b4 b7 b8
 rw [← he] at k8 b4
 rw [← hn] at k3 b4 c1
 rw [← hc] at k9 c1
 rw [← hL] at k5 k11 k12 k13 k14 lL lT b6 b7 b8
 obtain ⟨VV, hVV⟩ := nm (leftV h.versions L)
 rw [← hVV] at k11 k12 k14 lT b7 b8
 obtain ⟨T, hT⟩ := nm (ltags p VV h.exts)
 rw [← hT] at k12 k14 lT b7 b8
 obtain ⟨U, hU⟩ := nm (givenV h X)
 rw [← hU] at k10 b7 b8
 clear hq b1 b2 b3 b5 hX hn hc hL hVV hT hU xm' xl1 xl2 xm
 generalize hr : (⟨_, [], none⟩ : Ret) = r
 obtain ⟨ep, hep⟩ := nm (row fBox p)
 obtain ⟨ev, hev⟩ := nm (row fI h.versions)
 obtain ⟨ex, hex⟩ := nm (row fExt h.exts)
 obtain ⟨eL, heL⟩ := nm (row fI L)
 obtain ⟨eT, heT⟩ := nm (row fI T)
 obtain ⟨eV, heV⟩ := nm (row fI VV)
 obtain ⟨eU, heU⟩ := nm (row fI U)
 obtain ⟨y1, hy1⟩ := nm (row fI X.versions)
 obtain ⟨y2, hy2⟩ := nm (row fExt X.exts)
 rw [← hep, ← hev, ← hex] at k2
 rw [← hep, ← hev, ← hex, ← hy1, ← hy2] at k3 k15
 rw [← hev, ← hex] at k4
 rw [← hep, ← hev, ← heL] at k5
 rw [← hy1, ← hy2, ← hev, ← hex] at k6 k8
 rw [← hy1, ← hy2, ← hep] at k7
 rw [← hep] at k9
 rw [← hev, ← hex, ← hy1, ← hy2, ← heU] at k10
 rw [← hev, ← heL, ← heV] at k11
 rw [← hep, ← heV, ← hex, ← heT] at k12
 rw [← heL] at k13
 rw [← heT] at k14
 rw [← hy1, ← hy2] at k16
 have K2 := hF.two xv (fun f g a b c d => fix Tb md 184 [sHello ev ex (.sp 0 0) (.sp 0 1), R ep (.sp 1 0)] = some ⟨[sHello y1 y2 f g, I n, B true], [], none⟩ ∧
  fix Tb md 148 [sHello y1 y2 a b, sHello ev ex (.sp 1 0) (.sp 1 1)] = some ⟨[B true], [], none⟩ ∧
  fix Tb md 185 [sHello y1 y2 a b, R ep (.sp 1 0)] = some ⟨[B true], [], none⟩ ∧
  fix Tb md 131 [sHello y1 y2 a b, sHello ev ex (.sp 1 0) (.sp 1 1)] = some ⟨[B e], [], none⟩ ∧
  fix Tb md 150 [sHello ev ex (.sp 0 0) (.sp 0 1), sHello y1 y2 c d] = some ⟨[R eU (.ow false)], [], none⟩ ∧
  fix Tb md 131 [sHello y1 y2 (.sp 0 0) (.sp 0 1), sHello y1 y2 c d] = some ⟨[B true], [], none⟩ ∧
  fix Tb md 131 [sHello y1 y2 (.sp 0 0) .nl, sHello y1 y2 c d] = some ⟨[B true], [], none⟩) (fun a b c d qa qb qc qd => ⟨k3, k6 qa qb, k7 qa qb, k8 qa qb, k10 qc qd, k16 rfl rfl qc qd, k16 rfl rfl qc qd⟩)
 have K3 := hF'.two xv (fun f g _ _ _ _ => fix Tb md 189 [sHello ev ex (.sp 0 0) (.sp 0 1), R ep (.sp 1 0)] = some ⟨[sHello y1 y2 f g, B true], [], none⟩) (fun _ _ _ _ _ _ _ _ => k15)
 clear k3 k6 k7 k8 k10 k15 k16
 refine fix_fn2 (fn := ir40) tb_40 rfl rfl (by decide) rfl ?_; intro Q hQ; simp only [shutArgs, shutS, List.map_cons, List.map_nil, ir40, shut_in h0, List.head?_nil, reduceCtorEq, if_false, sExt, sHello, sAnswer, sEdit, sDeal, sBox, sDialed, sKnown]
 intro add sub mul arith eq ne lt le gt ge neg conv mn mx not beq len at' ln bd cut app allS isNil mks set o hP F ho
 rw [← ho] at k1 k2 K2 K3 k4 k5 k9 k11 k12 k13 k14
 have m1 := F.len_at heL
 have m2 := F.len_at hev
 have m3 := F.len_at heT
 have m4 := F.len_at heU
 have g4 : not true = false := by rw [F.not]; rfl
 have g7 : lt (len eL) (len ev) = true := by
  unfold At at m1 m2
  rw [F.lt, m1, m2]
  simp only [decide_eq_true_eq]
  have := of_decide_eq_true b6.symm
  omega
 have g8 : not (beq true true) = false := by rw [F.not, F.beq]; rfl
 have g9 : eq n 1 = e := by rw [F.eq]; exact b4
 have g10 : not (beq e e) = false := by rw [F.not, F.beq]; simp
 have g11 : c = true → ne n 1 = false := fun q => F.ne_f (c1 q)
 have g12 : eq (len eU) (add .i64 (len eL) (len eT)) = true := by
  unfold At at m1 m3 m4
  rw [F.eq, F.add, m1, m3, m4, wrap64 (by omega) (by omega), b8]
  simp
 as_aux_lemma =>
  rcases K2 with ⟨k3, k6, k7, k8, k10, k16, k17⟩ | ⟨k3, k6, k7, k8, k10, k16, k17⟩
  all_goals
   as_aux_lemma =>
    cbv
    rw [k1]; cbv
    rw [k2]; cbv
    rw [k3]; cbv
    rw [k4]; cbv
    rw [g4]; cbv
    rw [k5]; cbv
    rw [g7]; cbv
    rw [g8]; cbv
    rw [g4]; cbv
    rw [k6]; cbv
    rw [g4]; cbv
    rw [k7]; cbv
    rw [g4]; cbv
    rw [g9]; cbv
    rw [k8]; cbv
    rw [g10]; cbv
    rw [k9]; cbv
    apply share2 (P := True)
    case main =>
     intro key
     refine both (fun ec => ?_) (fun ec => ?_) <;> rw [ec] <;> cbv
     ·rw [g11 ec]; cbv
      exact key trivial
     ·exact key trivial
    case proof =>
    intro _
    rw [k10]; cbv
    rw [k11]; cbv
    rw [k12]; cbv
    first
     | refine loop_ind2 hP (σ := List Int × List Int × Int) (fun s => [(0, R eb .sh), (2, B false), (3, ⟨.ptr 157 0, []⟩), (4, R ep (.ow false)), (5, ⟨.ptr 159 0, []⟩), (6, I n), (7, B true), (8, R eL (.ow false)), (9, R eU (.ow false)), (10, R eT (.ow false)), (11, I s.2.2), (157, ⟨.box (), [⟨.row () ev, .ow false⟩, ⟨.row () ex, .ow false⟩]⟩), (159, ⟨.box (), [⟨.row () y1, .ow false⟩, ⟨.row () y2, .ow false⟩]⟩)]) (fun s => At s.2.2 s.2.1.length ∧ U = s.2.1 ++ s.1) (fun s => s.1.length) (U, [], 0) rfl ⟨rfl, rfl⟩ ?_
     | refine loop_ind2 hP (σ := List Int × List Int × Int) (fun s => [(0, R eb .sh), (2, B false), (3, ⟨.ptr 157 0, []⟩), (4, R ep (.ow false)), (5, ⟨.ptr 159 0, []⟩), (6, I n), (7, B true), (8, R eL (.ow false)), (9, R eU (.ow false)), (10, R eT (.ow false)), (11, I s.2.2), (157, ⟨.box (), [⟨.row () ev, .ow false⟩, ⟨.row () ex, .ow false⟩]⟩), (159, ⟨.box (), [⟨.row () y1, .ow false⟩, ⟨.row () y2, .nl⟩]⟩)]) (fun s => At s.2.2 s.2.1.length ∧ U = s.2.1 ++ s.1) (fun s => s.1.length) (U, [], 0) rfl ⟨rfl, rfl⟩ ?_
    intro c9 Q1 hc9 hQ1
    rintro ⟨suf, pre, i⟩ ⟨hi, hl'⟩ ih
    simp only at hi hl' ih
    cases suf with
    | nil =>
     as_aux_lemma =>
      cbv
      rw [F.lt_f hi m4 (by simp [hl'])]; cbv
      rw [hQ1]; cbv
      rcases K3 with k15 | k15
      all_goals
       rw [k15]; cbv
       rw [g12]; cbv
       first | rw [k16] | rw [k17]
       cbv
       rw [hQ]; cbv
       exact congrArg some hr
    | cons u suf =>
     as_aux_lemma =>
      obtain ⟨ix, hix⟩ := nm (pre.length * 1)
      have hi' : At (add .i64 i 1) (pre ++ [u]).length := at_len (F.inc hi (by rw [hl'] at b8; simp at b8; omega)) (by simp)
      have hl2' : U = (pre ++ [u]) ++ suf := by rw [hl']; simp
      have p0 : at' 1 eU i = some (ix, [.int .i64 u]) := by rw [hix]; exact F.get hi heU hl' (fun _ => rfl) (by decide)
      have hu := b7 u (by rw [hl']; simp)
      cbv
      rw [F.lt_t hi m4 (by simp [hl'])]; cbv
      rw [p0]; cbv
      rcases hu with ⟨u1, u2⟩ | ⟨u1, u2, u3⟩
      ·have e1 : lt u 1000 = true := by rw [F.lt]; simp; omega
       have e2 : ge u 1000 = false := by rw [F.ge]; simp; omega
       have e3 := k13 u
       rw [u2] at e3
       rw [e1]; cbv
       rw [p0]; cbv
       rw [e3]; cbv
       rw [g4]; cbv
       rw [p0]; cbv
       rw [e2]; cbv
       exact ih (suf, pre ++ [u], add .i64 i 1) ⟨hi', hl2'⟩ (by simp)
      ·have e1 : lt u 1000 = false := by rw [F.lt]; simp; omega
       have e2 : ge u 1000 = true := by rw [F.ge]; simp; omega
       have e3 := k14 (u - 1000)
       have e4 : sub .i64 u 1000 = u - 1000 := by rw [F.sub, wrap64 (by omega) (by omega)]
       rw [u3] at e3
       rw [e1]; cbv
       rw [p0]; cbv
       rw [e2]; cbv
       rw [p0]; cbv
       rw [e4, e3]; cbv
       rw [g4]; cbv
       exact ih (suf, pre ++ [u], add .i64 i 1) ⟨hi', hl2'⟩ (by simp)
theorem law40 (code : List Int) :
  fix Tb md 40 [R (row fU code) (.sp 0 0)] = some ⟨[B true], [], none⟩ := by
 have h0 : inFl (.sp 0 0) = true := rfl
 have k1 := ok108 code (f0 := .sp 0 0) rfl
 obtain ⟨v, hv⟩ := nm (decide (1048576 < code.length))
 rw [← hv] at k1
 cases v with
 | true =>
  generalize hr : (⟨_, [], none⟩ : Ret) = r
  obtain ⟨eb, heb⟩ := nm (row fU code)
  rw [← heb] at k1 ⊢
  refine fix_fn2 (fn := ir40) tb_40 rfl rfl (by decide) rfl ?_; intro Q hQ; simp only [shutArgs, shutS, List.map_cons, List.map_nil, ir40, shut_in h0, List.head?_nil, reduceCtorEq, if_false, sExt, sHello, sAnswer, sEdit, sDeal, sBox, sDialed, sKnown]
  intro add sub mul arith eq ne lt le gt ge neg conv mn mx not beq len at' ln bd cut app allS isNil mks set o hP F ho
  rw [← ho] at k1
  cbv
  rw [k1]; cbv
  rw [hQ]; cbv
  exact congrArg some hr
 | false =>
 have hl : code.length ≤ 1048576 := by
  have : ¬ 1048576 < code.length := of_decide_eq_false hv.symm
  omega
 obtain ⟨_, k2, vs, x, p, rfl, hvs, hx, hp⟩ := dr183 code hl
 have mh : (⟨vs, x⟩ : Hello).Mid := ⟨by have := hvs.1; simp only; omega, by have := hx.1; simp only; omega, fun y hy => by have := (hx.2 y hy).2.1; show y.body.length ≤ _; omega⟩
 have pl : p.length ≤ 4 := by have := hp.1; omega
 have pm : ∀ y ∈ p, y.Mid := fun y hy => ⟨by have := (hp.2 y hy).2.1.1; omega, by have := (hp.2 y hy).2.2.1; omega⟩
 rcases Bool.eq_false_or_eq_true (isHel ⟨vs, x⟩) with hh | hh
 ·rcases Bool.eq_false_or_eq_true (hfOk ⟨vs, x⟩ p) with hq | hq
  ·exact law40c _ ⟨vs, x⟩ p k1 k2 mh (by have := hvs.1; simp only; omega) (by have := hx.1; simp only; omega) pl pm hh hq
  ·exact law40b _ ⟨vs, x⟩ p k1 k2 mh pl pm hh hq
 ·exact law40a _ ⟨vs, x⟩ p k1 k2 mh (by omega) pm hh
theorem ans40 : Answers Tb md 40 [(false, [.row [.int .u8]])] := answers_of (by
 intro vs h
 obtain ⟨_, _, rfl, h1, h⟩ := fitL_cons h
 cases fitL_nil h
 obtain ⟨l, rfl, wl⟩ := fit_row (fun _ => fitL_U) h1
 exact law40 l)
end Go.Vm
