/- What the functions answer. -/
import Derived.Test.YtijojkfdbpiimabGPTab
import Derived.Test.YtijojkfdbpiimabGPFA
import Derived.Test.YtijojkfdbpiimabGPFB
import Derived.Test.YtijojkfdbpiimabGPFD
import Derived.Test.YtijojkfdbpiimabGPFE
import Derived.Test.YtijojkfdbpiimabGPFF
import Derived.Test.YtijojkfdbpiimabGPFH
import Derived.Test.YtijojkfdbpiimabGPFJ
import Derived.Test.YtijojkfdbpiimabGPFL
import Derived.Test.YtijojkfdbpiimabGPFM
import Derived.Test.YtijojkfdbpiimabGPFN
set_option maxHeartbeats 4000000
set_option maxRecDepth 10000
set_option linter.unusedVariables false
set_option linter.unusedSimpArgs false
namespace Go.Vm
def diV (h : Hello) (path : List Box) (vs tg : List Int) (k : Int) : Dialed := if hfOk h path then ⟨doV (hfV h path) path vs tg k, hfN h path, givenV h (hfV h path)⟩ else ⟨⟨false, 0, []⟩, hfN h path, []⟩
theorem partV_lens (h : Hello) (lv tg : List Int) : (partV h lv tg).versions.length ≤ h.versions.length ∧ (partV h lv tg).exts.length ≤ h.exts.length := by
 unfold partV; split
 ·exact ⟨sel_len, sel_len⟩
 ·exact ⟨by simp, by simp⟩
theorem hfV_lens (h : Hello) (path : List Box) : (hfV h path).versions.length ≤ h.versions.length ∧ (hfV h path).exts.length ≤ h.exts.length := by
 unfold hfV
 split
 ·split
  ·exact ⟨Nat.le_refl _, Nat.le_refl _⟩
  ·split
   ·exact partV_lens _ _ _
   ·exact ⟨by simp, by simp⟩
 ·exact ⟨by simp, by simp⟩
theorem diV_mid {h : Hello} {path : List Box} {vs tg : List Int} {k : Int} (m : h.Mid) (m1 : h.versions.length ≤ 1048576) (m2 : h.exts.length ≤ 1048576) : (diV h path vs tg k).Mid := by
 unfold diV
 split
 ·refine ⟨doV_mid (hfV_mid m), ?_⟩
  show (givenV h (hfV h path)).length ≤ 1073741824
  have := givenV_len h (hfV h path)
  omega
 ·exact ⟨by show ([] : List Int).length ≤ _; simp, by simp⟩
theorem doV_no {h : Hello} {path : List Box} {vs tg : List Int} {k : Int} (q : doOk h path vs tg k = false) : doV h path vs tg k = ⟨false, 0, []⟩ := by unfold doV; rw [q]; rfl
def diA (h : Hello) (path : List Box) (vs tg : List Int) (k : Int) : Bool := hfOk h path && doOk (hfV h path) path vs tg k
theorem diA_no {h : Hello} {path : List Box} {vs tg : List Int} {k : Int} (q : diA h path vs tg k = false) : (diV h path vs tg k).deal.tags = [] := by
 unfold diA at q
 unfold diV
 cases w : hfOk h path with
 | false => rfl
 | true => rw [w, Bool.true_and] at q; simp only [if_true]; rw [doV_no q]
theorem diB_no {h : Hello} {path : List Box} {vs tg : List Int} {k : Int} (q : hfOk h path = false) : (diV h path vs tg k).up = [] := by unfold diV; rw [q]; rfl
theorem joinD {d : Dialed} {a b : Bool} {P Q : List (List V) → List (List V) → Fl → Fl → Prop} (ha : a = false → d.deal.tags = []) (hb : b = false → d.up = []) (hab : a = true → b = true) (p : P (row fI d.deal.tags) (row fI d.up) (tF a) (tF b)) (q : Q (row fI d.deal.tags) (row fI d.up) (tF a) (tF b)) :
  ((P (row fI d.deal.tags) (row fI d.up) (.ow false) (.ow false)) ∧ (Q (row fI d.deal.tags) (row fI d.up) (.ow false) (.ow false))) ∨ ((d.deal.tags = [] ∧ P [] (row fI d.up) .nl (.ow false)) ∧ (d.deal.tags = [] ∧ Q [] (row fI d.up) .nl (.ow false))) ∨ ((d.deal.tags = [] ∧ d.up = [] ∧ P [] [] .nl .nl) ∧ (d.deal.tags = [] ∧ d.up = [] ∧ Q [] [] .nl .nl)) := by
 cases b with
 | true => cases a with
  | true => exact .inl ⟨p, q⟩
  | false => have e := ha rfl; rw [e] at p q; exact .inr (.inl ⟨⟨e, p⟩, e, q⟩)
 | false => cases a with
  | true => cases hab rfl
  | false => have e := ha rfl; have e2 := hb rfl; rw [e, e2] at p q; exact .inr (.inr ⟨⟨e, e2, p⟩, e, e2, q⟩)
theorem ok204 (h : Hello) (path : List Box) (vs tg : List Int) (k : Int) (mh : h.Mid) (m1 : h.versions.length ≤ 1048576) (m2 : h.exts.length ≤ 1048576) (pl : path.length ≤ 1073741824) (pm : ∀ y ∈ path, y.Mid) (hv : vs.length ≤ 1073741824) (ht : tg.length ≤ 1073741824) {f0 f1 f2 f3 f4 : Fl} (q0 : inFl f0 = true) (q1 : inFl f1 = true) (q2 : inFl f2 = true) (q3 : inFl f3 = true) (q4 : inFl f4 = true) :
  fix Tb md 204 [sHello (row fI h.versions) (row fExt h.exts) f0 f1, R (row fBox path) f2, R (row fI vs) f3, R (row fI tg) f4, I k] = some ⟨[sDialed (diV h path vs tg k).deal.ok (diV h path vs tg k).deal.version (row fI (diV h path vs tg k).deal.tags) (diV h path vs tg k).tries (row fI (diV h path vs tg k).up) (tF (diA h path vs tg k)) (tF (hfOk h path))], [], none⟩ := by
 obtain ⟨fv, gv, hf, k1⟩ := ok184 h path mh pl pm (f0 := .sp 0 0) (f1 := .sp 0 1) (f2 := .sp 1 0) rfl rfl rfl
 obtain ⟨x, hx⟩ := nm (hfV h path)
 have mx : x.Mid := by rw [hx]; exact hfV_mid mh
 have lx := hfV_lens h path
 rw [← hx] at k1 lx hf
 obtain ⟨w, hw⟩ := nm (hfOk h path)
 obtain ⟨n, hn⟩ := nm (hfN h path)
 rw [← hw, ← hn] at k1
 have k2 := ok211f x path vs tg k mx pl pm hv ht (f0 := inA fv 0 0) (f1 := inA gv 0 1) (f2 := .sp 1 0) (f3 := .sp 2 0) (f4 := .sp 3 0) (hf.inl 0 0) (hf.inr 0 1) rfl rfl rfl
 have k3 := ok150 h x m1 (by omega) m2 (by omega) (f0 := .sp 0 0) (f1 := .sp 0 1) (f2 := inA fv 1 0) (f3 := inA gv 1 1) rfl rfl (hf.inl 1 0) (hf.inr 1 1)
 have hT : diV h path vs tg k = if w then ⟨doV x path vs tg k, n, givenV h x⟩ else ⟨⟨false, 0, []⟩, n, []⟩ := by rw [hw, hn, hx]; rfl
 have hA : diA h path vs tg k = (w && doOk x path vs tg k) := by rw [hw, hx]; rfl
 replace hf := HF.fl hf
 rw [hT, hA, ← hw]
 clear hT hA
 cases w with
 | false =>
  rw [Bool.false_and]
  clear k2 k3
  generalize hr : (⟨_, [], none⟩ : Ret) = r
  obtain ⟨dv, hdv⟩ := nm (row fI h.versions)
  obtain ⟨dx, hdx⟩ := nm (row fExt h.exts)
  obtain ⟨ep, hep⟩ := nm (row fBox path)
  obtain ⟨ev, hev⟩ := nm (row fI vs)
  obtain ⟨et, het⟩ := nm (row fI tg)
  obtain ⟨xv, hxv⟩ := nm (row fI x.versions)
  obtain ⟨xx, hxx⟩ := nm (row fExt x.exts)
  rw [← hdv, ← hdx, ← hep, ← hxv, ← hxx] at k1
  rw [← hdv, ← hdx, ← hep, ← hev, ← het]
  rcases hf with ⟨rfl, rfl⟩ | ⟨rfl, rfl⟩ | ⟨rfl, rfl⟩
  all_goals
   refine fix_fn2 (fn := ir204) tb_204 rfl rfl (by decide) rfl ?_; intro Q hQ; simp only [shutArgs, shutS, List.map_cons, List.map_nil, ir204, shut_in q0, shut_in q1, shut_in q2, shut_in q3, shut_in q4, List.head?_nil, reduceCtorEq, if_false, sExt, sHello, sAnswer, sEdit, sDeal, sBox, sDialed, sKnown]
   intro add sub mul arith eq ne lt le gt ge neg conv mn mx not beq len at' ln bd cut app allS isNil mks set o hP F ho
   rw [← ho] at k1
   cbv
   rw [k1]; cbv
   rw [show not false = true by rw [F.not]; rfl]; cbv
   rw [hQ]; cbv
   exact congrArg some hr
 | true =>
  simp only [if_true, Bool.true_and]
  obtain ⟨bb, hbb⟩ := nm (doOk x path vs tg k)
  rw [← hbb] at k2 ⊢
  obtain ⟨d, hd⟩ := nm (doV x path vs tg k)
  obtain ⟨u, hu⟩ := nm (givenV h x)
  rw [← hd] at k2
  rw [← hu] at k3
  rw [← hd, ← hu]
  obtain ⟨dv, hdv⟩ := nm (row fI h.versions)
  obtain ⟨dx, hdx⟩ := nm (row fExt h.exts)
  obtain ⟨ep, hep⟩ := nm (row fBox path)
  obtain ⟨ev, hev⟩ := nm (row fI vs)
  obtain ⟨et, het⟩ := nm (row fI tg)
  obtain ⟨xv, hxv⟩ := nm (row fI x.versions)
  obtain ⟨xx, hxx⟩ := nm (row fExt x.exts)
  obtain ⟨eu, heu⟩ := nm (row fI u)
  rw [← hdv, ← hdx, ← hep, ← hxv, ← hxx] at k1
  rw [← hxv, ← hxx, ← hep, ← hev, ← het] at k2
  rw [← hdv, ← hdx, ← hxv, ← hxx, ← heu] at k3
  rw [← hdv, ← hdx, ← hep, ← hev, ← het, ← heu]
  have k4 := k2
  clear k2
  obtain ⟨ez, hez⟩ := nm (row fI d.tags)
  rw [← hez] at k4 ⊢
  clear hbb
  rcases hf with ⟨rfl, rfl⟩ | ⟨rfl, rfl⟩ | ⟨rfl, rfl⟩
  all_goals
   simp only [inA] at k3 k4
   cases bb
   all_goals
    simp only [tF] at k4 ⊢
    generalize hr : (⟨_, [], none⟩ : Ret) = r
    refine fix_fn2 (fn := ir204) tb_204 rfl rfl (by decide) rfl ?_; intro Q hQ; simp only [shutArgs, shutS, List.map_cons, List.map_nil, ir204, shut_in q0, shut_in q1, shut_in q2, shut_in q3, shut_in q4, List.head?_nil, reduceCtorEq, if_false, sExt, sHello, sAnswer, sEdit, sDeal, sBox, sDialed, sKnown]
    intro add sub mul arith eq ne lt le gt ge neg conv mn mx not beq len at' ln bd cut app allS isNil mks set o hP F ho
    rw [← ho] at k1 k3 k4
    cbv
    rw [k1]; cbv
    rw [show not true = false by rw [F.not]; rfl]; cbv
    rw [k4]; cbv
    rw [k3]; cbv
    rw [hQ]; cbv
    exact congrArg some hr
def minI (a b : Int) : Int := if b < a then b else a
def maxI (a b : Int) : Int := if a < b then b else a
def mn3 (n l : Int) : Int := if 0 < l then (if 3 < n + l then 3 else n + l) else n
def dpV (h : Hello) (path : List Box) (vs tg : List Int) (k l : Int) : Dialed := if 3 ≤ l then ⟨⟨false, 0, []⟩, 3, []⟩ else ⟨(diV h path vs tg k).deal, mn3 (diV h path vs tg k).tries l, (diV h path vs tg k).up⟩
theorem diV_tries (h : Hello) (path : List Box) (vs tg : List Int) (k : Int) : 0 ≤ (diV h path vs tg k).tries ∧ (diV h path vs tg k).tries ≤ 2 := by
 have : (diV h path vs tg k).tries = hfN h path := by unfold diV; split <;> rfl
 rw [this]; unfold hfN
 split
 ·split <;> omega
 ·omega
theorem dpV_mid {h : Hello} {path : List Box} {vs tg : List Int} {k l : Int} (m : h.Mid) (m1 : h.versions.length ≤ 1048576) (m2 : h.exts.length ≤ 1048576) : (dpV h path vs tg k l).Mid := by
 unfold dpV
 split
 ·exact ⟨by show ([] : List Int).length ≤ _; simp, by simp⟩
 ·have := diV_mid (path := path) (vs := vs) (tg := tg) (k := k) m m1 m2
  exact this
def dpA (h : Hello) (path : List Box) (vs tg : List Int) (k l : Int) : Bool := !decide (3 ≤ l) && diA h path vs tg k
def dpB (h : Hello) (path : List Box) (l : Int) : Bool := !decide (3 ≤ l) && hfOk h path
theorem dpA_no {h : Hello} {path : List Box} {vs tg : List Int} {k l : Int} (q : dpA h path vs tg k l = false) : (dpV h path vs tg k l).deal.tags = [] := by
 unfold dpA at q
 unfold dpV
 split
 ·rfl
 ·rename_i e; rw [decide_eq_false e] at q; exact diA_no q
theorem dpB_no {h : Hello} {path : List Box} {vs tg : List Int} {k l : Int} (q : dpB h path l = false) : (dpV h path vs tg k l).up = [] := by
 unfold dpB at q
 unfold dpV
 split
 ·rfl
 ·rename_i e; rw [decide_eq_false e] at q; exact diB_no q
theorem dpAB {h : Hello} {path : List Box} {vs tg : List Int} {k l : Int} (e : dpA h path vs tg k l = true) : dpB h path l = true := by
 unfold dpA diA at e
 unfold dpB
 simp only [Bool.and_eq_true] at e ⊢
 exact ⟨e.1, e.2.1⟩
theorem ok203 (h : Hello) (path : List Box) (vs tg : List Int) (k l : Int) (mh : h.Mid) (m1 : h.versions.length ≤ 1048576) (m2 : h.exts.length ≤ 1048576) (pl : path.length ≤ 1073741824) (pm : ∀ y ∈ path, y.Mid) (hv : vs.length ≤ 1073741824) (ht : tg.length ≤ 1073741824) {f0 f1 f2 f3 f4 : Fl} (q0 : inFl f0 = true) (q1 : inFl f1 = true) (q2 : inFl f2 = true) (q3 : inFl f3 = true) (q4 : inFl f4 = true) :
  fix Tb md 203 [sHello (row fI h.versions) (row fExt h.exts) f0 f1, R (row fBox path) f2, R (row fI vs) f3, R (row fI tg) f4, I k, I l] = some ⟨[sDialed (dpV h path vs tg k l).deal.ok (dpV h path vs tg k l).deal.version (row fI (dpV h path vs tg k l).deal.tags) (dpV h path vs tg k l).tries (row fI (dpV h path vs tg k l).up) (tF (dpA h path vs tg k l)) (tF (dpB h path l))], [], none⟩ := by
 have k1 := ok204 h path vs tg k mh m1 m2 pl pm hv ht (f0 := .sp 0 0) (f1 := .sp 0 1) (f2 := .sp 1 0) (f3 := .sp 2 0) (f4 := .sp 3 0) rfl rfl rfl rfl rfl
 have hn := diV_tries h path vs tg k
 obtain ⟨x, hx⟩ := nm (diV h path vs tg k)
 rw [← hx] at k1 hn
 obtain ⟨a, ha⟩ := nm (diA h path vs tg k)
 obtain ⟨b, hb⟩ := nm (hfOk h path)
 rw [← ha, ← hb] at k1
 obtain ⟨n, hN⟩ := nm (x.tries)
 rw [← hN] at k1 hn
 obtain ⟨n', hN'⟩ := nm (mn3 n l)
 by_cases hl : 3 ≤ l
 ·rw [show dpV h path vs tg k l = ⟨⟨false, 0, []⟩, 3, []⟩ by unfold dpV; rw [if_pos hl]]
  rw [show dpA h path vs tg k l = false by unfold dpA; rw [decide_eq_true hl]; rfl, show dpB h path l = false by unfold dpB; rw [decide_eq_true hl]; rfl]
  clear k1
  generalize hr : (⟨_, [], none⟩ : Ret) = r
  obtain ⟨dv, hdv⟩ := nm (row fI h.versions)
  obtain ⟨dx, hdx⟩ := nm (row fExt h.exts)
  obtain ⟨ep, hep⟩ := nm (row fBox path)
  obtain ⟨ev, hev⟩ := nm (row fI vs)
  obtain ⟨et, het⟩ := nm (row fI tg)
  rw [← hdv, ← hdx, ← hep, ← hev, ← het]
  refine fix_fn2 (fn := ir203) tb_203 rfl rfl (by decide) rfl ?_; intro Q hQ; simp only [shutArgs, shutS, List.map_cons, List.map_nil, ir203, shut_in q0, shut_in q1, shut_in q2, shut_in q3, shut_in q4, List.head?_nil, reduceCtorEq, if_false, sExt, sHello, sAnswer, sEdit, sDeal, sBox, sDialed, sKnown]
  intro add sub mul arith eq ne lt le gt ge neg conv mn mx not beq len at' ln bd cut app allS isNil mks set o hP F ho
  have g1 : ge l 3 = true := by rw [F.ge]; simpa using hl
  cbv
  rw [g1]; cbv
  rw [hQ]; cbv
  exact congrArg some hr
 rw [show dpV h path vs tg k l = ⟨x.deal, n', x.up⟩ by unfold dpV; rw [if_neg hl, hN', hN, hx]]
 rw [show dpA h path vs tg k l = a by unfold dpA; rw [decide_eq_false hl, ha]; rfl, show dpB h path l = b by unfold dpB; rw [decide_eq_false hl, hb]; rfl]
 generalize hr : (⟨_, [], none⟩ : Ret) = r
 obtain ⟨dv, hdv⟩ := nm (row fI h.versions)
 obtain ⟨dx, hdx⟩ := nm (row fExt h.exts)
 obtain ⟨ep, hep⟩ := nm (row fBox path)
 obtain ⟨ev, hev⟩ := nm (row fI vs)
 obtain ⟨et, het⟩ := nm (row fI tg)
 obtain ⟨ex, hex⟩ := nm (row fI x.deal.tags)
 obtain ⟨eu, heu⟩ := nm (row fI x.up)
 obtain ⟨ok, hok⟩ := nm (x.deal.ok)
 obtain ⟨ve, hve⟩ := nm (x.deal.version)
 rw [← hdv, ← hdx, ← hep, ← hev, ← het, ← hex, ← heu, ← hok, ← hve] at k1
 rw [← hex, ← heu, ← hok, ← hve] at hr
 rw [← hdv, ← hdx, ← hep, ← hev, ← het]
 clear ha hb
 cases a <;> cases b
 all_goals
  simp only [tF] at k1 hr
  refine fix_fn2 (fn := ir203) tb_203 rfl rfl (by decide) rfl ?_; intro Q hQ; simp only [shutArgs, shutS, List.map_cons, List.map_nil, ir203, shut_in q0, shut_in q1, shut_in q2, shut_in q3, shut_in q4, List.head?_nil, reduceCtorEq, if_false, sExt, sHello, sAnswer, sEdit, sDeal, sBox, sDialed, sKnown]
  intro add sub mul arith eq ne lt le gt ge neg conv mn mx not beq len at' ln bd cut app allS isNil mks set o hP F ho
  have g1 : ge l 3 = false := by rw [F.ge]; simpa using hl
  rw [← ho] at k1
  cbv
  rw [g1]; cbv
  rw [k1]; cbv
  refine both (fun d1 => ?_) (fun d1 => ?_) <;> rw [d1] <;> cbv
  ·rw [F.gt, decide_eq_true_eq] at d1
   have g2 : add .i64 n l = n + l := by rw [F.add, wrap64 (by omega) (by omega)]
   have g3 : mn (n + l) 3 = n' := by rw [F.mn, hN', mn3, if_pos d1]
   rw [g2, g3]
   rw [hQ]; cbv
   exact congrArg some hr
  ·rw [F.gt, decide_eq_false_iff_not] at d1
   rw [hQ]; cbv
   rw [← hr, hN', mn3, if_neg d1]
theorem ok64 (a b : Deal) (w0 : a.tags.length ≤ 1099511627776) {f0 g0 : Fl} (q0 : inFl f0 = true) (p0 : inFl g0 = true) :
  fix Tb md 64 [sDeal a.ok a.version (row fI a.tags) f0, sDeal b.ok b.version (row fI b.tags) g0] = some ⟨[B (decide (a = b))], [], none⟩ := by
 refine fix_fn (fn := ir64) tb_64 rfl rfl (by decide) rfl ?_; simp only [shutArgs, shutS, List.map_cons, List.map_nil, ir64, shut_in q0, shut_in p0, List.head?_nil, reduceCtorEq, if_false, sExt, sHello, sAnswer, sEdit, sDeal, sBox, sDialed, sKnown]
 generalize hr : (⟨_, [], none⟩ : Ret) = r
 obtain ⟨d0, hd0⟩ := nm (row fI a.tags)
 obtain ⟨e0, he0⟩ := nm (row fI b.tags)
 rw [← hd0, ← he0]
 obtain ⟨v0, hv0⟩ := nm (decide (a.tags = b.tags))
 intro add sub mul arith eq ne lt le gt ge neg conv mn mx not beq len at' ln bd cut app allS isNil mks set o hP F ho
 have c0 : o 229 [R d0 (.sp 0 0), R e0 (.sp 1 0)] = some ⟨[B v0], [], none⟩ := by rw [ho, hv0, hd0, he0]; exact ok229 _ _ w0 rfl rfl
 cbv
 repeat' (first | (rw [c0]; cbv) | (refine both (fun c => ?_) (fun c => ?_) <;> (try rw [c]) <;> (try cbv)))
 all_goals (clear hP c0 ho; try simp only [F.eq, F.ne, F.le, F.lt, F.ge, F.gt, F.not, F.beq] at *; clear F; subst hr)
 all_goals (simp_all [Deal.eq_iff] <;> (intros; omega))
theorem ok94 (a b : Dialed) (w0 : a.deal.tags.length ≤ 1099511627776) (w1 : a.up.length ≤ 1099511627776) {f0 f1 g0 g1 : Fl} (q0 : inFl f0 = true) (q1 : inFl f1 = true) (p0 : inFl g0 = true) (p1 : inFl g1 = true) :
  fix Tb md 94 [sDialed a.deal.ok a.deal.version (row fI a.deal.tags) a.tries (row fI a.up) f0 f1, sDialed b.deal.ok b.deal.version (row fI b.deal.tags) b.tries (row fI b.up) g0 g1] = some ⟨[B (decide (a = b))], [], none⟩ := by
 refine fix_fn (fn := ir94) tb_94 rfl rfl (by decide) rfl ?_; simp only [shutArgs, shutS, List.map_cons, List.map_nil, ir94, shut_in q0, shut_in q1, shut_in p0, shut_in p1, List.head?_nil, reduceCtorEq, if_false, sExt, sHello, sAnswer, sEdit, sDeal, sBox, sDialed, sKnown]
 generalize hr : (⟨_, [], none⟩ : Ret) = r
 obtain ⟨d0, hd0⟩ := nm (row fI a.deal.tags)
 obtain ⟨e0, he0⟩ := nm (row fI b.deal.tags)
 obtain ⟨d1, hd1⟩ := nm (row fI a.up)
 obtain ⟨e1, he1⟩ := nm (row fI b.up)
 rw [← hd0, ← he0, ← hd1, ← he1]
 obtain ⟨v0, hv0⟩ := nm (decide (a.deal = b.deal))
 obtain ⟨v1, hv1⟩ := nm (decide (a.up = b.up))
 intro add sub mul arith eq ne lt le gt ge neg conv mn mx not beq len at' ln bd cut app allS isNil mks set o hP F ho
 have c0 : o 64 [sDeal a.deal.ok a.deal.version d0 (.sp 0 2), sDeal b.deal.ok b.deal.version e0 (.sp 1 2)] = some ⟨[B v0], [], none⟩ := by rw [ho, hv0, hd0, he0]; exact ok64 _ _ w0 rfl rfl
 have c1 : o 229 [R d1 (.sp 0 0), R e1 (.sp 1 0)] = some ⟨[B v1], [], none⟩ := by rw [ho, hv1, hd1, he1]; exact ok229 _ _ w1 rfl rfl
 cbv
 repeat' (first | (rw [c0]; cbv) | (rw [c1]; cbv) | (refine both (fun c => ?_) (fun c => ?_) <;> (try rw [c]) <;> (try cbv)))
 all_goals (clear hP c0 c1 ho; try simp only [F.eq, F.ne, F.le, F.lt, F.ge, F.gt, F.not, F.beq] at *; clear F; subst hr)
 all_goals (simp_all [Dialed.eq_iff] <;> (intros; omega))
theorem fitL_U {vs : List V} (h : FitL [.int .u8] vs) : ∃ n, vs = fU n ∧ True := by
 obtain ⟨v, vs', rfl, h1, h2⟩ := fitL_cons h
 obtain ⟨n, rfl, h3⟩ := fit_int h1
 exact ⟨n, by rw [fitL_nil h2]; rfl, trivial⟩
end Go.Vm
