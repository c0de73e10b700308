/- What the law answers. -/
import Derived.Test.YtmojgceacpclpaaGLTab
import Derived.Test.YtmojgceacpclpaaGLFA
import Derived.Test.YtmojgceacpclpaaGLFD
import Derived.Test.YtmojgceacpclpaaGLFE
import Derived.Test.YtmojgceacpclpaaGLFF
import Derived.Test.YtmojgceacpclpaaGLFH
import Derived.Test.YtmojgceacpclpaaGLFK
import Derived.Test.YtmojgceacpclpaaGLFO
import Derived.Test.YtmojgceacpclpaaGLFQ
set_option maxHeartbeats 4000000
set_option maxRecDepth 10000
set_option linter.unusedVariables false
set_option linter.unusedSimpArgs false
namespace Go.Vm
theorem law52 (code : List Int) :
  fix Tb md 52 [R (row fU code) (.sp 0 0)] = some ⟨[B true], [], none⟩ := by
 have h0 : inFl (.sp 0 0) = true := rfl
 have k1 := ok108 code (f0 := .sp 0 0) rfl
 obtain ⟨v, hv⟩ := nm (decide (1048576 < code.length))
 rw [← hv] at k1
 generalize hr : (⟨_, [], none⟩ : Ret) = r
 cases v with
 | true =>
  obtain ⟨ec, hec⟩ := nm (row fU code)
  rw [← hec] at k1 ⊢
  refine fix_fn2 (fn := ir52) tb_52 rfl rfl (by decide) rfl ?_; intro Q hQ; simp only [shutArgs, shutS, List.map_cons, List.map_nil, ir52, shut_in h0, List.head?_nil, reduceCtorEq, if_false, sExt, sHello, sAnswer, sEdit, sDeal, sBox, sDialed, sKnown]
  intro add sub mul arith eq ne lt le gt ge neg conv mn mx not beq len at' ln bd cut app allS isNil mks set o hP F ho
  rw [← ho] at k1
  cbv
  rw [k1]; cbv
  rw [hQ]; cbv
  exact congrArg some hr
 | false =>
 have hl : code.length ≤ 1048576 := by
  have : ¬ 1048576 < code.length := of_decide_eq_false hv.symm
  omega
 obtain ⟨_, k2, sn, en, ln, bn, so, eo, lo, bo, rfl, ⟨n1, n2⟩, ⟨n3, n4⟩⟩ := dr212 code hl
 obtain ⟨_, k3, sa, ea, la, sm, em, lm, rfl, ⟨n5, n6⟩, ⟨n7, n8⟩⟩ := dr218 code hl
 have c0 : ∀ n : Nat, n ≤ 12 → n ≤ 1073741824 := fun n h => by omega
 have hld : (lo.map dualM).length ≤ 12 := by rw [List.length_map]; exact n4
 have kNO := ok213 sn so en eo ln lo (c0 _ (by omega)) (c0 _ n2) (c0 _ (by omega)) (c0 _ n4) (f0 := .sp 0 1) (f1 := .sp 0 2) (f2 := .sp 1 1) (f3 := .sp 1 2) rfl rfl rfl rfl
 have kOO := ok213 so so eo eo lo lo (c0 _ (by omega)) (c0 _ n4) (c0 _ (by omega)) (c0 _ n4) (f0 := .sp 0 1) (f1 := .sp 0 2) (f2 := .sp 1 1) (f3 := .sp 1 2) rfl rfl rfl rfl
 have kO := ok214 so eo lo (c0 _ (by omega)) (c0 _ n4) (f0 := .sp 0 1) (f1 := .sp 0 2) rfl rfl
 have kS := ok215 sn so en eo ln lo (c0 _ (by omega)) (c0 _ n2) (c0 _ (by omega)) (c0 _ n4) (f0 := .sp 0 1) (f1 := .sp 0 2) (f2 := .sp 1 1) (f3 := .sp 1 2) rfl rfl rfl rfl
 have kD := ok217 so eo lo (c0 _ (by omega)) (c0 _ n4) (f0 := .sp 0 1) (f1 := .sp 0 2) rfl rfl
 have kOD := ok216 so so eo eo lo (lo.map dualM) (c0 _ (by omega)) (c0 _ n4) (c0 _ (by omega)) (c0 _ hld) (f0 := .sp 0 1) (f1 := .sp 0 2) (f2 := .sp 1 1) (f3 := .sp 1 2) rfl rfl rfl rfl
 have kND := ok216 sn so en eo ln (lo.map dualM) (c0 _ (by omega)) (c0 _ n2) (c0 _ (by omega)) (c0 _ hld) (f0 := .sp 0 1) (f1 := .sp 0 2) (f2 := .sp 1 1) (f3 := .sp 1 2) rfl rfl rfl rfl
 have kOA := ok216 so sa eo ea lo la (c0 _ (by omega)) (c0 _ n4) (c0 _ (by omega)) (c0 _ n6) (f0 := .sp 0 1) (f1 := .sp 0 2) (f2 := .sp 1 1) (f3 := .sp 1 2) rfl rfl rfl rfl
 have kNA := ok216 sn sa en ea ln la (c0 _ (by omega)) (c0 _ n2) (c0 _ (by omega)) (c0 _ n6) (f0 := .sp 0 1) (f1 := .sp 0 2) (f2 := .sp 1 1) (f3 := .sp 1 2) rfl rfl rfl rfl
 have kOM := ok216 so sm eo em lo lm (c0 _ (by omega)) (c0 _ n4) (c0 _ (by omega)) (c0 _ n8) (f0 := .sp 0 1) (f1 := .sp 0 2) (f2 := .sp 1 1) (f3 := .sp 1 2) rfl rfl rfl rfl
 have kNM := ok216 sn sm en em ln lm (c0 _ (by omega)) (c0 _ n2) (c0 _ (by omega)) (c0 _ n8) (f0 := .sp 0 1) (f1 := .sp 0 2) (f2 := .sp 1 1) (f3 := .sp 1 2) rfl rfl rfl rfl
 rw [fol_self] at kOO
 obtain ⟨v1, hv1⟩ := nm (folV sn en ln so eo lo)
 obtain ⟨v2, hv2⟩ := nm (mchO so eo lo)
 have hD : v1 = true → safV so eo lo so eo (lo.map dualM) = true → safV sn en ln so eo (lo.map dualM) = true := fun q => fol_saf (hv1 ▸ q)
 have hA : v1 = true → safV so eo lo sa ea la = true → safV sn en ln sa ea la = true := fun q => fol_saf (hv1 ▸ q)
 have hM : v1 = true → safV so eo lo sm em lm = true → safV sn en ln sm em lm = true := fun q => fol_saf (hv1 ▸ q)
 obtain ⟨s1, hs1⟩ := nm (safV so eo lo so eo (lo.map dualM))
 obtain ⟨s2, hs2⟩ := nm (safV sn en ln so eo (lo.map dualM))
 obtain ⟨s3, hs3⟩ := nm (safV so eo lo sa ea la)
 obtain ⟨s4, hs4⟩ := nm (safV sn en ln sa ea la)
 obtain ⟨s5, hs5⟩ := nm (safV so eo lo sm em lm)
 obtain ⟨s6, hs6⟩ := nm (safV sn en ln sm em lm)
 rw [← hs1, ← hs2] at hD
 rw [← hs3, ← hs4] at hA
 rw [← hs5, ← hs6] at hM
 rw [← hs1] at kOD
 rw [← hs2] at kND
 rw [← hs3] at kOA
 rw [← hs4] at kNA
 rw [← hs5] at kOM
 rw [← hs6] at kNM
 rw [← hv1] at kNO kS
 rw [← hv2] at kOO kO
 clear hs1 hs2 hs3 hs4 hs5 hs6
 cases v1 with
 | false =>
  obtain ⟨ec, hec⟩ := nm (row fU code)
  obtain ⟨e1, he1⟩ := nm (row fMove ln)
  obtain ⟨e2, he2⟩ := nm (row fB en)
  obtain ⟨e3, he3⟩ := nm (row fMove lo)
  obtain ⟨e4, he4⟩ := nm (row fB eo)
  rw [← hec] at k1 k2 ⊢
  rw [← he1, ← he2, ← he3, ← he4] at k2 kNO kS
  rw [← he3, ← he4] at kO kOO
  clear k3 kD kOD kND kOA kNA kOM kNM hD hA hM hv1 hv2
  refine fix_fn2 (fn := ir52) tb_52 rfl rfl (by decide) rfl ?_; intro Q hQ; simp only [shutArgs, shutS, List.map_cons, List.map_nil, ir52, shut_in h0, List.head?_nil, reduceCtorEq, if_false, sExt, sHello, sAnswer, sEdit, sDeal, sBox, sDialed, sKnown]
  intro add sub mul arith eq ne lt le gt ge neg conv mn mx not beq len at' ln bd cut app allS isNil mks set o hP F ho
  rw [← ho] at k1 k2 kNO kOO kO kS
  have gn : not false = true := by rw [F.not]; rfl
  have gb : beq v2 v2 = true := by rw [F.beq]; cases v2 <;> rfl
  cases bn <;> cases bo
  all_goals
   cbv
   rw [k1]; cbv
   rw [k2]; cbv
   rw [kNO]; cbv
   rw [gn]; cbv
   rw [kO]; cbv
   rw [kOO]; cbv
   rw [gb]; cbv
   rw [kS]; cbv
   rw [gn]; cbv
   rw [hQ]; cbv
   exact congrArg some hr
 | true =>
 obtain ⟨m1, m2, m3⟩ := folV_iff.1 hv1.symm
 obtain rfl : v2 = true := by rw [hv2]; exact m2
 obtain ⟨_, kP, L, fL, rfl, hfL, hL⟩ := ok219 sn so en eo ln lo m1 m2 (f0 := .sp 0 1) (f1 := .sp 0 2) (f2 := .sp 1 1) (f3 := .sp 1 2) rfl rfl rfl rfl
 obtain ⟨bf, rfl⟩ := flO_ex hfL
 have kF := fun x y => ok220 sn so en eo ln lo x y (mch_mc m1) (mch_mc m2) (f0 := .sp 0 1) (f1 := .sp 0 2) (f2 := .sp 1 1) (f3 := .sp 1 2) rfl rfl rfl rfl
 have hall : ∀ x y, [x, y] ∈ L → fAtV en eo ln lo x y = true := fun x y hm => fAt_iff.2 (m3 x y ((reach_rx (same := true) (fun _ => rfl) (mch_mc m1).ok (mch_mc m2).ok).1 (hL.reach _ hm)))
 have hD' := hD rfl
 have hA' := hA rfl
 have hM' := hM rfl
 have hpr := hL.pr
 have hl36 := hL.len
 have hpos : 0 < L.length := List.length_pos_of_mem hL.zero
 clear hD hA hM hv1 hv2 hfL m3 m1 m2 kO kS hL
 obtain ⟨ec, hec⟩ := nm (row fU code)
 obtain ⟨e1, he1⟩ := nm (row fMove ln)
 obtain ⟨e2, he2⟩ := nm (row fB en)
 obtain ⟨e3, he3⟩ := nm (row fMove lo)
 obtain ⟨e4, he4⟩ := nm (row fB eo)
 obtain ⟨e5, he5⟩ := nm (row fMove la)
 obtain ⟨e6, he6⟩ := nm (row fB ea)
 obtain ⟨e7, he7⟩ := nm (row fMove lm)
 obtain ⟨e8, he8⟩ := nm (row fB em)
 obtain ⟨e9, he9⟩ := nm (row fMove (lo.map dualM))
 obtain ⟨el, hel⟩ := nm (row fR L)
 rw [← hec] at k1 k2 k3 ⊢
 rw [← he1, ← he2, ← he3, ← he4] at k2 kNO kP kF
 rw [← he5, ← he6, ← he7, ← he8] at k3
 rw [← he3, ← he4] at kOO kD kOD kOA kOM
 rw [← he1, ← he2] at kND kNA kNM
 rw [← he4] at kND
 rw [← he9] at kD kOD kND
 rw [← he5, ← he6] at kOA kNA
 rw [← he7, ← he8] at kOM kNM
 rw [← hel] at kP
 refine fix_fn2 (fn := ir52) tb_52 rfl rfl (by decide) rfl ?_; intro Q hQ; simp only [shutArgs, shutS, List.map_cons, List.map_nil, ir52, shut_in h0, List.head?_nil, reduceCtorEq, if_false, sExt, sHello, sAnswer, sEdit, sDeal, sBox, sDialed, sKnown]
 intro add sub mul arith eq ne lt le gt ge neg conv mn mx not beq len at' ln bd cut app allS isNil mks set o hP F ho
 rw [← ho] at k1 k2 k3 kNO kOO kD kOD kND kOA kNA kOM kNM kP kF
 have gt1 : not true = false := by rw [F.not]; rfl
 have ll := F.len_at hel
 have p2 : ∀ a b, at' 1 [[.int .i64 a], [.int .i64 b]] 0 = some (0, [.int .i64 a]) := fun a b => by rw [F.at']; rfl
 have p3 : ∀ a b, at' 1 [[.int .i64 a], [.int .i64 b]] 1 = some (1, [.int .i64 b]) := fun a b => by rw [F.at']; rfl
 have gp : gt (len el) 0 = true := by rw [F.gt, show len el = (L.length : Int) from ll]; simp; omega
 have fin : some (⟨[B true], [], none⟩ : Ret) = some r := congrArg some hr
 cases bn
 ·cases bo
  ·cases bf
   ·cbv
    rw [k1]; cbv
    rw [k2]; cbv
    rw [kNO]; cbv
    rw [gt1]; cbv
    rw [kD]; cbv
    rw [kOD]; cbv
    apply share2 (P := True)
    ·intro key
     cases s1
     ·cbv
      exact key trivial
     ·cbv
      rw [kD]; cbv
      rw [kND, hD' rfl]; cbv
      rw [gt1]; cbv
      exact key trivial
    intro _
    rw [k3]; cbv
    rw [kOA]; cbv
    apply share2 (P := True)
    ·intro key
     have hs : s3 = true → s4 = true := hA'
     have hs' : s5 = true → s6 = true := hM'
     cases s3
     ·cbv
      rw [kOM]; cbv
      cases s5
      ·cbv
       exact key trivial
      ·cbv
       rw [kNM, hs' rfl]; cbv
       rw [gt1]; cbv
       exact key trivial
     ·cbv
      rw [kNA, hs rfl]; cbv
      rw [gt1]; cbv
      rw [kOM]; cbv
      cases s5
      ·cbv
       exact key trivial
      ·cbv
       rw [kNM, hs' rfl]; cbv
       rw [gt1]; cbv
       exact key trivial
    intro _
    rw [kP]; cbv
    refine loop_ind2 hP (σ := List (List Int) × List (List Int) × Int) (fun s => [(0, R ec .sh), (2, B false), (3, ⟨.ptr 104 0, []⟩), (4, ⟨.ptr 105 0, []⟩), (5, ⟨.ptr 106 0, []⟩), (6, ⟨.ptr 107 0, []⟩), (7, R el (.ow false)), (8, I s.2.2), (104, ⟨.box (), [⟨.int .i64 sn, .sc⟩, ⟨.row () e2, .ow false⟩, ⟨.row () e1, (.ow false)⟩]⟩), (105, ⟨.box (), [⟨.int .i64 so, .sc⟩, ⟨.row () e4, .ow false⟩, ⟨.row () e3, (.ow false)⟩]⟩), (106, ⟨.box (), [⟨.int .i64 sa, .sc⟩, ⟨.row () e6, .ow false⟩, ⟨.row () e5, .ow false⟩]⟩), (107, ⟨.box (), [⟨.int .i64 sm, .sc⟩, ⟨.row () e8, .ow false⟩, ⟨.row () e7, .ow false⟩]⟩)])
     (fun s => At s.2.2 s.2.1.length ∧ L = s.2.1 ++ s.1) (fun s => s.1.length) (L, [], 0) rfl ⟨rfl, rfl⟩ ?_
    intro c9 Q1 hc9 hQ1
    rintro ⟨suf, pre, i⟩ ⟨hi, hl'⟩ ih
    simp only at hi hl' ih
    cases suf with
    | nil =>
     have gl : lt i (len el) = false := F.lt_f hi ll (by simp [hl'])
     cbv
     rw [gl]; cbv
     rw [hQ1]; cbv
     rw [gp]; cbv
     rw [kOO]; cbv
     rw [hQ]; cbv
     exact fin
    | cons p suf =>
     have gl : lt i (len el) = true := F.lt_t hi ll (by simp [hl'])
     obtain ⟨x, y, hxy, _⟩ := hpr p (by rw [hl']; simp)
     obtain ⟨ix, hix⟩ := nm (pre.length * 1)
     have r1 : at' 1 el i = some (ix, [.row () [[.int .i64 x], [.int .i64 y]]]) := by rw [hix, F.get hi hel hl' (fun _ => rfl) (by decide), hxy]; rfl
     have c2 := kF x y
     rw [hall x y (by rw [← hxy, hl']; simp)] at c2
     have ih' := ih (suf, pre ++ [p], add .i64 i 1) ⟨at_len (F.inc hi (by rw [hl'] at hl36; simp at hl36; omega)) (by simp), by rw [hl']; simp⟩ (by simp)
     clear ih
     cbv
     rw [gl]; cbv
     rw [r1]; cbv
     rw [p2]; cbv
     rw [r1]; cbv
     rw [p3]; cbv
     rw [c2]; cbv
     rw [gt1]; cbv
     exact ih'
   ·cbv
    rw [k1]; cbv
    rw [k2]; cbv
    rw [kNO]; cbv
    rw [gt1]; cbv
    rw [kD]; cbv
    rw [kOD]; cbv
    apply share2 (P := True)
    ·intro key
     cases s1
     ·cbv
      exact key trivial
     ·cbv
      rw [kD]; cbv
      rw [kND, hD' rfl]; cbv
      rw [gt1]; cbv
      exact key trivial
    intro _
    rw [k3]; cbv
    rw [kOA]; cbv
    apply share2 (P := True)
    ·intro key
     have hs : s3 = true → s4 = true := hA'
     have hs' : s5 = true → s6 = true := hM'
     cases s3
     ·cbv
      rw [kOM]; cbv
      cases s5
      ·cbv
       exact key trivial
      ·cbv
       rw [kNM, hs' rfl]; cbv
       rw [gt1]; cbv
       exact key trivial
     ·cbv
      rw [kNA, hs rfl]; cbv
      rw [gt1]; cbv
      rw [kOM]; cbv
      cases s5
      ·cbv
       exact key trivial
      ·cbv
       rw [kNM, hs' rfl]; cbv
       rw [gt1]; cbv
       exact key trivial
    intro _
    rw [kP]; cbv
    refine loop_ind2 hP (σ := List (List Int) × List (List Int) × Int) (fun s => [(0, R ec .sh), (2, B false), (3, ⟨.ptr 104 0, []⟩), (4, ⟨.ptr 105 0, []⟩), (5, ⟨.ptr 106 0, []⟩), (6, ⟨.ptr 107 0, []⟩), (7, R el (.os false)), (8, I s.2.2), (104, ⟨.box (), [⟨.int .i64 sn, .sc⟩, ⟨.row () e2, .ow false⟩, ⟨.row () e1, (.ow false)⟩]⟩), (105, ⟨.box (), [⟨.int .i64 so, .sc⟩, ⟨.row () e4, .ow false⟩, ⟨.row () e3, (.ow false)⟩]⟩), (106, ⟨.box (), [⟨.int .i64 sa, .sc⟩, ⟨.row () e6, .ow false⟩, ⟨.row () e5, .ow false⟩]⟩), (107, ⟨.box (), [⟨.int .i64 sm, .sc⟩, ⟨.row () e8, .ow false⟩, ⟨.row () e7, .ow false⟩]⟩)])
     (fun s => At s.2.2 s.2.1.length ∧ L = s.2.1 ++ s.1) (fun s => s.1.length) (L, [], 0) rfl ⟨rfl, rfl⟩ ?_
    intro c9 Q1 hc9 hQ1
    rintro ⟨suf, pre, i⟩ ⟨hi, hl'⟩ ih
    simp only at hi hl' ih
    cases suf with
    | nil =>
     have gl : lt i (len el) = false := F.lt_f hi ll (by simp [hl'])
     cbv
     rw [gl]; cbv
     rw [hQ1]; cbv
     rw [gp]; cbv
     rw [kOO]; cbv
     rw [hQ]; cbv
     exact fin
    | cons p suf =>
     have gl : lt i (len el) = true := F.lt_t hi ll (by simp [hl'])
     obtain ⟨x, y, hxy, _⟩ := hpr p (by rw [hl']; simp)
     obtain ⟨ix, hix⟩ := nm (pre.length * 1)
     have r1 : at' 1 el i = some (ix, [.row () [[.int .i64 x], [.int .i64 y]]]) := by rw [hix, F.get hi hel hl' (fun _ => rfl) (by decide), hxy]; rfl
     have c2 := kF x y
     rw [hall x y (by rw [← hxy, hl']; simp)] at c2
     have ih' := ih (suf, pre ++ [p], add .i64 i 1) ⟨at_len (F.inc hi (by rw [hl'] at hl36; simp at hl36; omega)) (by simp), by rw [hl']; simp⟩ (by simp)
     clear ih
     cbv
     rw [gl]; cbv
     rw [r1]; cbv
     rw [p2]; cbv
     rw [r1]; cbv
     rw [p3]; cbv
     rw [c2]; cbv
     rw [gt1]; cbv
     exact ih'
  ·cases bf
   ·cbv
    rw [k1]; cbv
    rw [k2]; cbv
    rw [kNO]; cbv
    rw [gt1]; cbv
    rw [kD]; cbv
    rw [kOD]; cbv
    apply share2 (P := True)
    ·intro key
     cases s1
     ·cbv
      exact key trivial
     ·cbv
      rw [kD]; cbv
      rw [kND, hD' rfl]; cbv
      rw [gt1]; cbv
      exact key trivial
    intro _
    rw [k3]; cbv
    rw [kOA]; cbv
    apply share2 (P := True)
    ·intro key
     have hs : s3 = true → s4 = true := hA'
     have hs' : s5 = true → s6 = true := hM'
     cases s3
     ·cbv
      rw [kOM]; cbv
      cases s5
      ·cbv
       exact key trivial
      ·cbv
       rw [kNM, hs' rfl]; cbv
       rw [gt1]; cbv
       exact key trivial
     ·cbv
      rw [kNA, hs rfl]; cbv
      rw [gt1]; cbv
      rw [kOM]; cbv
      cases s5
      ·cbv
       exact key trivial
      ·cbv
       rw [kNM, hs' rfl]; cbv
       rw [gt1]; cbv
       exact key trivial
    intro _
    rw [kP]; cbv
    refine loop_ind2 hP (σ := List (List Int) × List (List Int) × Int) (fun s => [(0, R ec .sh), (2, B false), (3, ⟨.ptr 104 0, []⟩), (4, ⟨.ptr 105 0, []⟩), (5, ⟨.ptr 106 0, []⟩), (6, ⟨.ptr 107 0, []⟩), (7, R el (.ow false)), (8, I s.2.2), (104, ⟨.box (), [⟨.int .i64 sn, .sc⟩, ⟨.row () e2, .ow false⟩, ⟨.row () e1, (.ow false)⟩]⟩), (105, ⟨.box (), [⟨.int .i64 so, .sc⟩, ⟨.row () e4, .ow false⟩, ⟨.row () e3, .no⟩]⟩), (106, ⟨.box (), [⟨.int .i64 sa, .sc⟩, ⟨.row () e6, .ow false⟩, ⟨.row () e5, .ow false⟩]⟩), (107, ⟨.box (), [⟨.int .i64 sm, .sc⟩, ⟨.row () e8, .ow false⟩, ⟨.row () e7, .ow false⟩]⟩)])
     (fun s => At s.2.2 s.2.1.length ∧ L = s.2.1 ++ s.1) (fun s => s.1.length) (L, [], 0) rfl ⟨rfl, rfl⟩ ?_
    intro c9 Q1 hc9 hQ1
    rintro ⟨suf, pre, i⟩ ⟨hi, hl'⟩ ih
    simp only at hi hl' ih
    cases suf with
    | nil =>
     have gl : lt i (len el) = false := F.lt_f hi ll (by simp [hl'])
     cbv
     rw [gl]; cbv
     rw [hQ1]; cbv
     rw [gp]; cbv
     rw [kOO]; cbv
     rw [hQ]; cbv
     exact fin
    | cons p suf =>
     have gl : lt i (len el) = true := F.lt_t hi ll (by simp [hl'])
     obtain ⟨x, y, hxy, _⟩ := hpr p (by rw [hl']; simp)
     obtain ⟨ix, hix⟩ := nm (pre.length * 1)
     have r1 : at' 1 el i = some (ix, [.row () [[.int .i64 x], [.int .i64 y]]]) := by rw [hix, F.get hi hel hl' (fun _ => rfl) (by decide), hxy]; rfl
     have c2 := kF x y
     rw [hall x y (by rw [← hxy, hl']; simp)] at c2
     have ih' := ih (suf, pre ++ [p], add .i64 i 1) ⟨at_len (F.inc hi (by rw [hl'] at hl36; simp at hl36; omega)) (by simp), by rw [hl']; simp⟩ (by simp)
     clear ih
     cbv
     rw [gl]; cbv
     rw [r1]; cbv
     rw [p2]; cbv
     rw [r1]; cbv
     rw [p3]; cbv
     rw [c2]; cbv
     rw [gt1]; cbv
     exact ih'
   ·cbv
    rw [k1]; cbv
    rw [k2]; cbv
    rw [kNO]; cbv
    rw [gt1]; cbv
    rw [kD]; cbv
    rw [kOD]; cbv
    apply share2 (P := True)
    ·intro key
     cases s1
     ·cbv
      exact key trivial
     ·cbv
      rw [kD]; cbv
      rw [kND, hD' rfl]; cbv
      rw [gt1]; cbv
      exact key trivial
    intro _
    rw [k3]; cbv
    rw [kOA]; cbv
    apply share2 (P := True)
    ·intro key
     have hs : s3 = true → s4 = true := hA'
     have hs' : s5 = true → s6 = true := hM'
     cases s3
     ·cbv
      rw [kOM]; cbv
      cases s5
      ·cbv
       exact key trivial
      ·cbv
       rw [kNM, hs' rfl]; cbv
       rw [gt1]; cbv
       exact key trivial
     ·cbv
      rw [kNA, hs rfl]; cbv
      rw [gt1]; cbv
      rw [kOM]; cbv
      cases s5
      ·cbv
       exact key trivial
      ·cbv
       rw [kNM, hs' rfl]; cbv
       rw [gt1]; cbv
       exact key trivial
    intro _
    rw [kP]; cbv
    refine loop_ind2 hP (σ := List (List Int) × List (List Int) × Int) (fun s => [(0, R ec .sh), (2, B false), (3, ⟨.ptr 104 0, []⟩), (4, ⟨.ptr 105 0, []⟩), (5, ⟨.ptr 106 0, []⟩), (6, ⟨.ptr 107 0, []⟩), (7, R el (.os false)), (8, I s.2.2), (104, ⟨.box (), [⟨.int .i64 sn, .sc⟩, ⟨.row () e2, .ow false⟩, ⟨.row () e1, (.ow false)⟩]⟩), (105, ⟨.box (), [⟨.int .i64 so, .sc⟩, ⟨.row () e4, .ow false⟩, ⟨.row () e3, .no⟩]⟩), (106, ⟨.box (), [⟨.int .i64 sa, .sc⟩, ⟨.row () e6, .ow false⟩, ⟨.row () e5, .ow false⟩]⟩), (107, ⟨.box (), [⟨.int .i64 sm, .sc⟩, ⟨.row () e8, .ow false⟩, ⟨.row () e7, .ow false⟩]⟩)])
     (fun s => At s.2.2 s.2.1.length ∧ L = s.2.1 ++ s.1) (fun s => s.1.length) (L, [], 0) rfl ⟨rfl, rfl⟩ ?_
    intro c9 Q1 hc9 hQ1
    rintro ⟨suf, pre, i⟩ ⟨hi, hl'⟩ ih
    simp only at hi hl' ih
    cases suf with
    | nil =>
     have gl : lt i (len el) = false := F.lt_f hi ll (by simp [hl'])
     cbv
     rw [gl]; cbv
     rw [hQ1]; cbv
     rw [gp]; cbv
     rw [kOO]; cbv
     rw [hQ]; cbv
     exact fin
    | cons p suf =>
     have gl : lt i (len el) = true := F.lt_t hi ll (by simp [hl'])
     obtain ⟨x, y, hxy, _⟩ := hpr p (by rw [hl']; simp)
     obtain ⟨ix, hix⟩ := nm (pre.length * 1)
     have r1 : at' 1 el i = some (ix, [.row () [[.int .i64 x], [.int .i64 y]]]) := by rw [hix, F.get hi hel hl' (fun _ => rfl) (by decide), hxy]; rfl
     have c2 := kF x y
     rw [hall x y (by rw [← hxy, hl']; simp)] at c2
     have ih' := ih (suf, pre ++ [p], add .i64 i 1) ⟨at_len (F.inc hi (by rw [hl'] at hl36; simp at hl36; omega)) (by simp), by rw [hl']; simp⟩ (by simp)
     clear ih
     cbv
     rw [gl]; cbv
     rw [r1]; cbv
     rw [p2]; cbv
     rw [r1]; cbv
     rw [p3]; cbv
     rw [c2]; cbv
     rw [gt1]; cbv
     exact ih'
 ·cases bo
  ·cases bf
   ·cbv
    rw [k1]; cbv
    rw [k2]; cbv
    rw [kNO]; cbv
    rw [gt1]; cbv
    rw [kD]; cbv
    rw [kOD]; cbv
    apply share2 (P := True)
    ·intro key
     cases s1
     ·cbv
      exact key trivial
     ·cbv
      rw [kD]; cbv
      rw [kND, hD' rfl]; cbv
      rw [gt1]; cbv
      exact key trivial
    intro _
    rw [k3]; cbv
    rw [kOA]; cbv
    apply share2 (P := True)
    ·intro key
     have hs : s3 = true → s4 = true := hA'
     have hs' : s5 = true → s6 = true := hM'
     cases s3
     ·cbv
      rw [kOM]; cbv
      cases s5
      ·cbv
       exact key trivial
      ·cbv
       rw [kNM, hs' rfl]; cbv
       rw [gt1]; cbv
       exact key trivial
     ·cbv
      rw [kNA, hs rfl]; cbv
      rw [gt1]; cbv
      rw [kOM]; cbv
      cases s5
      ·cbv
       exact key trivial
      ·cbv
       rw [kNM, hs' rfl]; cbv
       rw [gt1]; cbv
       exact key trivial
    intro _
    rw [kP]; cbv
    refine loop_ind2 hP (σ := List (List Int) × List (List Int) × Int) (fun s => [(0, R ec .sh), (2, B false), (3, ⟨.ptr 104 0, []⟩), (4, ⟨.ptr 105 0, []⟩), (5, ⟨.ptr 106 0, []⟩), (6, ⟨.ptr 107 0, []⟩), (7, R el (.ow false)), (8, I s.2.2), (104, ⟨.box (), [⟨.int .i64 sn, .sc⟩, ⟨.row () e2, .ow false⟩, ⟨.row () e1, .no⟩]⟩), (105, ⟨.box (), [⟨.int .i64 so, .sc⟩, ⟨.row () e4, .ow false⟩, ⟨.row () e3, (.ow false)⟩]⟩), (106, ⟨.box (), [⟨.int .i64 sa, .sc⟩, ⟨.row () e6, .ow false⟩, ⟨.row () e5, .ow false⟩]⟩), (107, ⟨.box (), [⟨.int .i64 sm, .sc⟩, ⟨.row () e8, .ow false⟩, ⟨.row () e7, .ow false⟩]⟩)])
     (fun s => At s.2.2 s.2.1.length ∧ L = s.2.1 ++ s.1) (fun s => s.1.length) (L, [], 0) rfl ⟨rfl, rfl⟩ ?_
    intro c9 Q1 hc9 hQ1
    rintro ⟨suf, pre, i⟩ ⟨hi, hl'⟩ ih
    simp only at hi hl' ih
    cases suf with
    | nil =>
     have gl : lt i (len el) = false := F.lt_f hi ll (by simp [hl'])
     cbv
     rw [gl]; cbv
     rw [hQ1]; cbv
     rw [gp]; cbv
     rw [kOO]; cbv
     rw [hQ]; cbv
     exact fin
    | cons p suf =>
     have gl : lt i (len el) = true := F.lt_t hi ll (by simp [hl'])
     obtain ⟨x, y, hxy, _⟩ := hpr p (by rw [hl']; simp)
     obtain ⟨ix, hix⟩ := nm (pre.length * 1)
     have r1 : at' 1 el i = some (ix, [.row () [[.int .i64 x], [.int .i64 y]]]) := by rw [hix, F.get hi hel hl' (fun _ => rfl) (by decide), hxy]; rfl
     have c2 := kF x y
     rw [hall x y (by rw [← hxy, hl']; simp)] at c2
     have ih' := ih (suf, pre ++ [p], add .i64 i 1) ⟨at_len (F.inc hi (by rw [hl'] at hl36; simp at hl36; omega)) (by simp), by rw [hl']; simp⟩ (by simp)
     clear ih
     cbv
     rw [gl]; cbv
     rw [r1]; cbv
     rw [p2]; cbv
     rw [r1]; cbv
     rw [p3]; cbv
     rw [c2]; cbv
     rw [gt1]; cbv
     exact ih'
   ·cbv
    rw [k1]; cbv
    rw [k2]; cbv
    rw [kNO]; cbv
    rw [gt1]; cbv
    rw [kD]; cbv
    rw [kOD]; cbv
    apply share2 (P := True)
    ·intro key
     cases s1
     ·cbv
      exact key trivial
     ·cbv
      rw [kD]; cbv
      rw [kND, hD' rfl]; cbv
      rw [gt1]; cbv
      exact key trivial
    intro _
    rw [k3]; cbv
    rw [kOA]; cbv
    apply share2 (P := True)
    ·intro key
     have hs : s3 = true → s4 = true := hA'
     have hs' : s5 = true → s6 = true := hM'
     cases s3
     ·cbv
      rw [kOM]; cbv
      cases s5
      ·cbv
       exact key trivial
      ·cbv
       rw [kNM, hs' rfl]; cbv
       rw [gt1]; cbv
       exact key trivial
     ·cbv
      rw [kNA, hs rfl]; cbv
      rw [gt1]; cbv
      rw [kOM]; cbv
      cases s5
      ·cbv
       exact key trivial
      ·cbv
       rw [kNM, hs' rfl]; cbv
       rw [gt1]; cbv
       exact key trivial
    intro _
    rw [kP]; cbv
    refine loop_ind2 hP (σ := List (List Int) × List (List Int) × Int) (fun s => [(0, R ec .sh), (2, B false), (3, ⟨.ptr 104 0, []⟩), (4, ⟨.ptr 105 0, []⟩), (5, ⟨.ptr 106 0, []⟩), (6, ⟨.ptr 107 0, []⟩), (7, R el (.os false)), (8, I s.2.2), (104, ⟨.box (), [⟨.int .i64 sn, .sc⟩, ⟨.row () e2, .ow false⟩, ⟨.row () e1, .no⟩]⟩), (105, ⟨.box (), [⟨.int .i64 so, .sc⟩, ⟨.row () e4, .ow false⟩, ⟨.row () e3, (.ow false)⟩]⟩), (106, ⟨.box (), [⟨.int .i64 sa, .sc⟩, ⟨.row () e6, .ow false⟩, ⟨.row () e5, .ow false⟩]⟩), (107, ⟨.box (), [⟨.int .i64 sm, .sc⟩, ⟨.row () e8, .ow false⟩, ⟨.row () e7, .ow false⟩]⟩)])
     (fun s => At s.2.2 s.2.1.length ∧ L = s.2.1 ++ s.1) (fun s => s.1.length) (L, [], 0) rfl ⟨rfl, rfl⟩ ?_
    intro c9 Q1 hc9 hQ1
    rintro ⟨suf, pre, i⟩ ⟨hi, hl'⟩ ih
    simp only at hi hl' ih
    cases suf with
    | nil =>
     have gl : lt i (len el) = false := F.lt_f hi ll (by simp [hl'])
     cbv
     rw [gl]; cbv
     rw [hQ1]; cbv
     rw [gp]; cbv
     rw [kOO]; cbv
     rw [hQ]; cbv
     exact fin
    | cons p suf =>
     have gl : lt i (len el) = true := F.lt_t hi ll (by simp [hl'])
     obtain ⟨x, y, hxy, _⟩ := hpr p (by rw [hl']; simp)
     obtain ⟨ix, hix⟩ := nm (pre.length * 1)
     have r1 : at' 1 el i = some (ix, [.row () [[.int .i64 x], [.int .i64 y]]]) := by rw [hix, F.get hi hel hl' (fun _ => rfl) (by decide), hxy]; rfl
     have c2 := kF x y
     rw [hall x y (by rw [← hxy, hl']; simp)] at c2
     have ih' := ih (suf, pre ++ [p], add .i64 i 1) ⟨at_len (F.inc hi (by rw [hl'] at hl36; simp at hl36; omega)) (by simp), by rw [hl']; simp⟩ (by simp)
     clear ih
     cbv
     rw [gl]; cbv
     rw [r1]; cbv
     rw [p2]; cbv
     rw [r1]; cbv
     rw [p3]; cbv
     rw [c2]; cbv
     rw [gt1]; cbv
     exact ih'
  ·cases bf
   ·cbv
    rw [k1]; cbv
    rw [k2]; cbv
    rw [kNO]; cbv
    rw [gt1]; cbv
    rw [kD]; cbv
    rw [kOD]; cbv
    apply share2 (P := True)
    ·intro key
     cases s1
     ·cbv
      exact key trivial
     ·cbv
      rw [kD]; cbv
      rw [kND, hD' rfl]; cbv
      rw [gt1]; cbv
      exact key trivial
    intro _
    rw [k3]; cbv
    rw [kOA]; cbv
    apply share2 (P := True)
    ·intro key
     have hs : s3 = true → s4 = true := hA'
     have hs' : s5 = true → s6 = true := hM'
     cases s3
     ·cbv
      rw [kOM]; cbv
      cases s5
      ·cbv
       exact key trivial
      ·cbv
       rw [kNM, hs' rfl]; cbv
       rw [gt1]; cbv
       exact key trivial
     ·cbv
      rw [kNA, hs rfl]; cbv
      rw [gt1]; cbv
      rw [kOM]; cbv
      cases s5
      ·cbv
       exact key trivial
      ·cbv
       rw [kNM, hs' rfl]; cbv
       rw [gt1]; cbv
       exact key trivial
    intro _
    rw [kP]; cbv
    refine loop_ind2 hP (σ := List (List Int) × List (List Int) × Int) (fun s => [(0, R ec .sh), (2, B false), (3, ⟨.ptr 104 0, []⟩), (4, ⟨.ptr 105 0, []⟩), (5, ⟨.ptr 106 0, []⟩), (6, ⟨.ptr 107 0, []⟩), (7, R el (.ow false)), (8, I s.2.2), (104, ⟨.box (), [⟨.int .i64 sn, .sc⟩, ⟨.row () e2, .ow false⟩, ⟨.row () e1, .no⟩]⟩), (105, ⟨.box (), [⟨.int .i64 so, .sc⟩, ⟨.row () e4, .ow false⟩, ⟨.row () e3, .no⟩]⟩), (106, ⟨.box (), [⟨.int .i64 sa, .sc⟩, ⟨.row () e6, .ow false⟩, ⟨.row () e5, .ow false⟩]⟩), (107, ⟨.box (), [⟨.int .i64 sm, .sc⟩, ⟨.row () e8, .ow false⟩, ⟨.row () e7, .ow false⟩]⟩)])
     (fun s => At s.2.2 s.2.1.length ∧ L = s.2.1 ++ s.1) (fun s => s.1.length) (L, [], 0) rfl ⟨rfl, rfl⟩ ?_
    intro c9 Q1 hc9 hQ1
    rintro ⟨suf, pre, i⟩ ⟨hi, hl'⟩ ih
    simp only at hi hl' ih
    cases suf with
    | nil =>
     have gl : lt i (len el) = false := F.lt_f hi ll (by simp [hl'])
     cbv
     rw [gl]; cbv
     rw [hQ1]; cbv
     rw [gp]; cbv
     rw [kOO]; cbv
     rw [hQ]; cbv
     exact fin
    | cons p suf =>
     have gl : lt i (len el) = true := F.lt_t hi ll (by simp [hl'])
     obtain ⟨x, y, hxy, _⟩ := hpr p (by rw [hl']; simp)
     obtain ⟨ix, hix⟩ := nm (pre.length * 1)
     have r1 : at' 1 el i = some (ix, [.row () [[.int .i64 x], [.int .i64 y]]]) := by rw [hix, F.get hi hel hl' (fun _ => rfl) (by decide), hxy]; rfl
     have c2 := kF x y
     rw [hall x y (by rw [← hxy, hl']; simp)] at c2
     have ih' := ih (suf, pre ++ [p], add .i64 i 1) ⟨at_len (F.inc hi (by rw [hl'] at hl36; simp at hl36; omega)) (by simp), by rw [hl']; simp⟩ (by simp)
     clear ih
     cbv
     rw [gl]; cbv
     rw [r1]; cbv
     rw [p2]; cbv
     rw [r1]; cbv
     rw [p3]; cbv
     rw [c2]; cbv
     rw [gt1]; cbv
     exact ih'
   ·cbv
    rw [k1]; cbv
    rw [k2]; cbv
    rw [kNO]; cbv
    rw [gt1]; cbv
    rw [kD]; cbv
    rw [kOD]; cbv
    apply share2 (P := True)
    ·intro key
     cases s1
     ·cbv
      exact key trivial
     ·cbv
      rw [kD]; cbv
      rw [kND, hD' rfl]; cbv
      rw [gt1]; cbv
      exact key trivial
    intro _
    rw [k3]; cbv
    rw [kOA]; cbv
    apply share2 (P := True)
    ·intro key
     have hs : s3 = true → s4 = true := hA'
     have hs' : s5 = true → s6 = true := hM'
     cases s3
     ·cbv
      rw [kOM]; cbv
      cases s5
      ·cbv
       exact key trivial
      ·cbv
       rw [kNM, hs' rfl]; cbv
       rw [gt1]; cbv
       exact key trivial
     ·cbv
      rw [kNA, hs rfl]; cbv
      rw [gt1]; cbv
      rw [kOM]; cbv
      cases s5
      ·cbv
       exact key trivial
      ·cbv
       rw [kNM, hs' rfl]; cbv
       rw [gt1]; cbv
       exact key trivial
    intro _
    rw [kP]; cbv
    refine loop_ind2 hP (σ := List (List Int) × List (List Int) × Int) (fun s => [(0, R ec .sh), (2, B false), (3, ⟨.ptr 104 0, []⟩), (4, ⟨.ptr 105 0, []⟩), (5, ⟨.ptr 106 0, []⟩), (6, ⟨.ptr 107 0, []⟩), (7, R el (.os false)), (8, I s.2.2), (104, ⟨.box (), [⟨.int .i64 sn, .sc⟩, ⟨.row () e2, .ow false⟩, ⟨.row () e1, .no⟩]⟩), (105, ⟨.box (), [⟨.int .i64 so, .sc⟩, ⟨.row () e4, .ow false⟩, ⟨.row () e3, .no⟩]⟩), (106, ⟨.box (), [⟨.int .i64 sa, .sc⟩, ⟨.row () e6, .ow false⟩, ⟨.row () e5, .ow false⟩]⟩), (107, ⟨.box (), [⟨.int .i64 sm, .sc⟩, ⟨.row () e8, .ow false⟩, ⟨.row () e7, .ow false⟩]⟩)])
     (fun s => At s.2.2 s.2.1.length ∧ L = s.2.1 ++ s.1) (fun s => s.1.length) (L, [], 0) rfl ⟨rfl, rfl⟩ ?_
    intro c9 Q1 hc9 hQ1
    rintro ⟨suf, pre, i⟩ ⟨hi, hl'⟩ ih
    simp only at hi hl' ih
    cases suf with
    | nil =>
     have gl : lt i (len el) = false := F.lt_f hi ll (by simp [hl'])
     cbv
     rw [gl]; cbv
     rw [hQ1]; cbv
     rw [gp]; cbv
     rw [kOO]; cbv
     rw [hQ]; cbv
     exact fin
    | cons p suf =>
     have gl : lt i (len el) = true := F.lt_t hi ll (by simp [hl'])
     obtain ⟨x, y, hxy, _⟩ := hpr p (by rw [hl']; simp)
     obtain ⟨ix, hix⟩ := nm (pre.length * 1)
     have r1 : at' 1 el i = some (ix, [.row () [[.int .i64 x], [.int .i64 y]]]) := by rw [hix, F.get hi hel hl' (fun _ => rfl) (by decide), hxy]; rfl
     have c2 := kF x y
     rw [hall x y (by rw [← hxy, hl']; simp)] at c2
     have ih' := ih (suf, pre ++ [p], add .i64 i 1) ⟨at_len (F.inc hi (by rw [hl'] at hl36; simp at hl36; omega)) (by simp), by rw [hl']; simp⟩ (by simp)
     clear ih
     cbv
     rw [gl]; cbv
     rw [r1]; cbv
     rw [p2]; cbv
     rw [r1]; cbv
     rw [p3]; cbv
     rw [c2]; cbv
     rw [gt1]; cbv
     exact ih'
theorem ans52 : Answers Tb md 52 [(false, [.row [.int .u8]])] := answers_of (by
 intro vs h
 obtain ⟨_, _, rfl, h1, h⟩ := fitL_cons h
 cases fitL_nil h
 obtain ⟨l, rfl, wl⟩ := fit_row (fun _ => fitL_U) h1
 exact law52 l)
end Go.Vm
