/- What the functions answer. -/
import Derived.Test.YthfbmkhjanmeaaaGCTab
import Derived.Test.YthfbmkhjanmeaaaGCFA
import Derived.Test.YthfbmkhjanmeaaaGCFB
import Derived.Test.YthfbmkhjanmeaaaGCFC
import Derived.Test.YthfbmkhjanmeaaaGCFD
import Derived.Test.YthfbmkhjanmeaaaGCFE
import Derived.Test.YthfbmkhjanmeaaaGCFF
import Derived.Test.YthfbmkhjanmeaaaGCFG
set_option maxHeartbeats 4000000
set_option maxRecDepth 10000
set_option linter.unusedVariables false
set_option linter.unusedSimpArgs false
namespace Go.Vm
def fbL (h : Hello) (path : List Box) : List Int := lvs path h.versions
def fbT (h : Hello) (path : List Box) : List Int := ltags path (sel (notIn (fbL h path)) idI h.versions) h.exts
def fbV (h : Hello) (path : List Box) : Hello := partV h (fbL h path) (fbT h path)
def fbOk (h : Hello) (path : List Box) : Bool := partOk h (fbL h path)
theorem fbV_mid {h : Hello} {path : List Box} (m : h.Mid) : (fbV h path).Mid := partV_mid m
theorem fb_no {h : Hello} {path : List Box} (hi : isHel h = false) : fbOk h path = false ∧ fbV h path = ⟨[], []⟩ := by
 have h1 : fbOk h path = false := by unfold fbOk partOk; rw [hi]; rfl
 refine ⟨h1, ?_⟩
 unfold fbV partV
 rw [show partOk h (fbL h path) = false from h1]; rfl
inductive HF : List Int → List Ext → Fl → Fl → Prop
 | oo (V : List Int) (X : List Ext) : HF V X (.ow false) (.ow false)
 | on (V : List Int) : HF V [] (.ow false) .nl
 | nn : HF [] [] .nl .nl
theorem HF.three {vs : List Int} {xs : List Ext} {P : List (List V) → List (List V) → Fl → Fl → Prop} (h : ∃ f g, HF vs xs f g ∧ P (row fI vs) (row fExt xs) f g) : P (row fI vs) (row fExt xs) (.ow false) (.ow false) ∨ (xs = [] ∧ P (row fI vs) [] (.ow false) .nl) ∨ (vs = [] ∧ xs = [] ∧ P [] [] .nl .nl) := by
 obtain ⟨f, g, h1, h2⟩ := h
 cases h1 with
 | oo => exact .inl h2
 | on => exact .inr (.inl ⟨rfl, h2⟩)
 | nn => exact .inr (.inr ⟨rfl, rfl, h2⟩)
theorem HF.of3 {vs : List Int} {xs : List Ext} {P : List (List V) → List (List V) → Fl → Fl → Prop} (h : P (row fI vs) (row fExt xs) (.ow false) (.ow false) ∨ (xs = [] ∧ P (row fI vs) [] (.ow false) .nl) ∨ (vs = [] ∧ xs = [] ∧ P [] [] .nl .nl)) : ∃ f g, HF vs xs f g ∧ P (row fI vs) (row fExt xs) f g := by
 rcases h with h | ⟨rfl, h⟩ | ⟨rfl, rfl, h⟩
 ·exact ⟨_, _, .oo _ _, h⟩
 ·exact ⟨_, _, .on _, h⟩
 ·exact ⟨_, _, .nn, h⟩
theorem HF.of2 {vs : List Int} {xs : List Ext} {P : List (List V) → List (List V) → Fl → Fl → Prop} (h : P (row fI vs) (row fExt xs) (.ow false) (.ow false) ∨ (vs = [] ∧ xs = [] ∧ P [] [] .nl .nl)) : ∃ f g, HF vs xs f g ∧ P (row fI vs) (row fExt xs) f g := by
 rcases h with h | ⟨rfl, rfl, h⟩
 ·exact ⟨_, _, .oo _ _, h⟩
 ·exact ⟨_, _, .nn, h⟩
theorem HF.fl {vs : List Int} {xs : List Ext} {f g : Fl} (h : HF vs xs f g) : (f = .ow false ∧ g = .ow false) ∨ (f = .ow false ∧ g = .nl) ∨ (f = .nl ∧ g = .nl) := by cases h <;> simp
def inA (f : Fl) (i c : Nat) : Fl := match f with | .ow _ => .sp i c | f => f
theorem HF.inl {vs : List Int} {xs : List Ext} {f g : Fl} (h : HF vs xs f g) (i c : Nat) : inFl (inA f i c) = true := by cases h <;> rfl
theorem HF.inr {vs : List Int} {xs : List Ext} {f g : Fl} (h : HF vs xs f g) (i c : Nat) : inFl (inA g i c) = true := by cases h <;> rfl
theorem ok189 (h : Hello) (path : List Box) (mh : h.Mid) (pl : path.length ≤ 1073741824) (pm : ∀ y ∈ path, y.Mid) {f0 f1 f2 : Fl} (q0 : inFl f0 = true) (q1 : inFl f1 = true) (q2 : inFl f2 = true) :
  ∃ f g, HF (fbV h path).versions (fbV h path).exts f g ∧ fix Tb md 189 [sHello (row fI h.versions) (row fExt h.exts) f0 f1, R (row fBox path) f2] = some ⟨[sHello (row fI (fbV h path).versions) (row fExt (fbV h path).exts) f g, B (fbOk h path)], [], none⟩ := by
 have mh' := mh
 unfold Hello.Mid at mh'
 have hvl := mh'.1
 have hxl := mh'.2.1
 have wh : ∀ y ∈ h.exts, y.body.length ≤ 1099511627776 := fun y hy => Nat.le_trans (show y.body.length ≤ 1073741824 from mh'.2.2 y hy) (by decide)
 have wm : ∀ y ∈ h.exts, y.body.length ≤ 1073741824 := fun y hy => mh'.2.2 y hy
 have a1 : (fbL h path).length ≤ 1073741824 := Nat.le_trans lvs_len hvl
 have a2 : (sel (notIn (fbL h path)) idI h.versions).length ≤ 1073741824 := Nat.le_trans sel_len hvl
 have a3 : (fbT h path).length ≤ 1073741824 := Nat.le_trans ltags_len hxl
 have hk := HF.of2 (P := fun V X f g => fix Tb md 165 [sHello (row fI h.versions) (row fExt h.exts) (.sp 0 0) (.sp 0 1), R (row fI (fbL h path)) (.sp 1 0), R (row fI (fbT h path)) (.sp 2 0)] = some ⟨[sHello V X f g, B (fbOk h path)], [], none⟩) (ok165 h (fbL h path) (fbT h path) mh a1 a3 (f0 := .sp 0 0) (f1 := .sp 0 1) (f2 := .sp 1 0) (f3 := .sp 2 0) rfl rfl rfl rfl)
 obtain ⟨f, g, hf, hk⟩ := hk
 refine ⟨f, g, hf, ?_⟩
 have k1 := ok171 path h.versions pl pm hvl (f0 := .sp 0 0) (f1 := .sp 1 0) rfl rfl
 have k2 := ok287 h.versions (fbL h path) hvl a1 (f0 := .sp 0 0) (f1 := .sp 1 0) rfl rfl
 have k3 := ok186 path (sel (notIn (fbL h path)) idI h.versions) h.exts pl pm a2 hxl wm (f0 := .sp 0 0) (f1 := .sp 1 0) (f2 := .sp 2 0) rfl rfl rfl
 rw [show lvs path h.versions = fbL h path from rfl] at k1
 rw [show ltags path (sel (notIn (fbL h path)) idI h.versions) h.exts = fbT h path from rfl] at k3
 obtain ⟨w, hw⟩ := nm (fbOk h path)
 rw [← hw] at hk ⊢
 obtain ⟨eV, heV⟩ := nm (row fI (fbV h path).versions)
 obtain ⟨eX, heX⟩ := nm (row fExt (fbV h path).exts)
 rw [show row fI (partV h (fbL h path) (fbT h path)).versions = eV from heV.symm, show row fExt (partV h (fbL h path) (fbT h path)).exts = eX from heX.symm] at hk
 rw [← heV, ← heX]
 obtain ⟨dv, hdv⟩ := nm (row fI h.versions)
 obtain ⟨dx, hdx⟩ := nm (row fExt h.exts)
 obtain ⟨ep, hep⟩ := nm (row fBox path)
 obtain ⟨el, hel⟩ := nm (row fI (fbL h path))
 obtain ⟨ew, hew⟩ := nm (row fI (sel (notIn (fbL h path)) idI h.versions))
 obtain ⟨et, het⟩ := nm (row fI (fbT h path))
 rw [← hdv, ← hdx, ← hel, ← het] at hk
 rw [← hdv, ← hep, ← hel] at k1
 rw [← hdv, ← hel, ← hew] at k2
 rw [← hep, ← hew, ← hdx, ← het] at k3
 rw [← hdv, ← hdx, ← hep]
 replace hf := HF.fl hf
 rcases hf with ⟨rfl, rfl⟩ | ⟨rfl, rfl⟩ | ⟨rfl, rfl⟩
 all_goals
  generalize hr : (⟨_, [], none⟩ : Ret) = r
  refine fix_fn2 (fn := ir189) tb_189 rfl rfl (by decide) rfl ?_; intro Q hQ; simp only [shutArgs, shutS, List.map_cons, List.map_nil, ir189, shut_in q0, shut_in q1, shut_in q2, List.head?_nil, reduceCtorEq, if_false, sExt, sHello, sAnswer, sEdit, sDeal, sBox, sDialed, sKnown]
  intro add sub mul arith eq ne lt le gt ge neg conv mn mx not beq len at' ln bd cut app allS isNil mks set o hP F ho
  have c2 : o 171 [R ep (.sp 0 0), R dv (.sp 1 0)] = some ⟨[R el (.ow false)], [], none⟩ := by rw [ho]; exact k1
  have c3 : o 287 [R dv (.sp 0 0), R el (.sp 1 0)] = some ⟨[R ew (.ow false)], [], none⟩ := by rw [ho]; exact k2
  have c4 : o 186 [R ep (.sp 0 0), R ew (.sp 1 0), R dx (.sp 2 0)] = some ⟨[R et (.ow false)], [], none⟩ := by rw [ho]; exact k3
  have c5 := hk
  rw [← ho] at c5
  cbv
  rw [c2]; cbv
  rw [c3]; cbv
  rw [c4]; cbv
  rw [c5]; cbv
  rw [hQ]; cbv
  exact congrArg some hr
theorem ok189t (h : Hello) (path : List Box) (mh : h.Mid) (pl : path.length ≤ 1073741824) (pm : ∀ y ∈ path, y.Mid) {f0 f1 f2 : Fl} (q0 : inFl f0 = true) (q1 : inFl f1 = true) (q2 : inFl f2 = true) :
  fix Tb md 189 [sHello (row fI h.versions) (row fExt h.exts) f0 f1, R (row fBox path) f2] = some ⟨[sHello (row fI (fbV h path).versions) (row fExt (fbV h path).exts) (.ow false) (.ow false), B (fbOk h path)], [], none⟩ ∨
  ((fbV h path).exts = [] ∧ fix Tb md 189 [sHello (row fI h.versions) (row fExt h.exts) f0 f1, R (row fBox path) f2] = some ⟨[sHello (row fI (fbV h path).versions) [] (.ow false) .nl, B (fbOk h path)], [], none⟩) ∨
  ((fbV h path).versions = [] ∧ (fbV h path).exts = [] ∧ fix Tb md 189 [sHello (row fI h.versions) (row fExt h.exts) f0 f1, R (row fBox path) f2] = some ⟨[sHello [] [] .nl .nl, B (fbOk h path)], [], none⟩) :=
 HF.three (P := fun V X f g => fix Tb md 189 [sHello (row fI h.versions) (row fExt h.exts) f0 f1, R (row fBox path) f2] = some ⟨[sHello V X f g, B (fbOk h path)], [], none⟩) (ok189 h path mh pl pm q0 q1 q2)
def hfC (h : Hello) (path : List Box) : Bool := fbOk h path && pw (fbV h path) path
def hfOk (h : Hello) (path : List Box) : Bool := isHel h && (pw h path || hfC h path)
def hfN (h : Hello) (path : List Box) : Int := if isHel h then (if pw h path then 1 else 2) else 0
def hfV (h : Hello) (path : List Box) : Hello := if isHel h then (if pw h path then h else if hfC h path then fbV h path else ⟨[], []⟩) else ⟨[], []⟩
theorem hfV_mid {h : Hello} {path : List Box} (m : h.Mid) : (hfV h path).Mid := by
 unfold hfV
 split
 ·split
  ·exact m
  ·split
   ·exact fbV_mid m
   ·exact ⟨by simp, by simp, by simp⟩
 ·exact ⟨by simp, by simp, by simp⟩
theorem hf_a {h : Hello} {path : List Box} (hi : isHel h = false) : hfOk h path = false ∧ hfN h path = 0 ∧ hfV h path = ⟨[], []⟩ := by
 unfold hfOk hfN hfV; rw [hi]; exact ⟨rfl, rfl, rfl⟩
theorem hf_b {h : Hello} {path : List Box} (hi : isHel h = true) (hp : pw h path = true) : hfOk h path = true ∧ hfN h path = 1 ∧ hfV h path = h := by
 unfold hfOk hfN hfV; rw [hi, hp]; exact ⟨rfl, rfl, rfl⟩
theorem hf_c {h : Hello} {path : List Box} (hi : isHel h = true) (hp : pw h path = false) (hc : hfC h path = false) : hfOk h path = false ∧ hfN h path = 2 ∧ hfV h path = ⟨[], []⟩ := by
 unfold hfOk hfN hfV; rw [hi, hp, hc]; exact ⟨rfl, rfl, rfl⟩
theorem hf_d {h : Hello} {path : List Box} (hi : isHel h = true) (hp : pw h path = false) (hc : hfC h path = true) : hfOk h path = true ∧ hfN h path = 2 ∧ hfV h path = fbV h path := by
 unfold hfOk hfN hfV; rw [hi, hp, hc]; exact ⟨rfl, rfl, rfl⟩
theorem ok184 (h : Hello) (path : List Box) (mh : h.Mid) (pl : path.length ≤ 1073741824) (pm : ∀ y ∈ path, y.Mid) {f0 f1 f2 : Fl} (q0 : inFl f0 = true) (q1 : inFl f1 = true) (q2 : inFl f2 = true) :
  ∃ f g, HF (hfV h path).versions (hfV h path).exts f g ∧ fix Tb md 184 [sHello (row fI h.versions) (row fExt h.exts) f0 f1, R (row fBox path) f2] = some ⟨[sHello (row fI (hfV h path).versions) (row fExt (hfV h path).exts) f g, I (hfN h path), B (hfOk h path)], [], none⟩ := by
 have mh' := mh
 unfold Hello.Mid at mh'
 have hvl := mh'.1
 have hxl := mh'.2.1
 have wh : ∀ y ∈ h.exts, y.body.length ≤ 1099511627776 := fun y hy => Nat.le_trans (show y.body.length ≤ 1073741824 from mh'.2.2 y hy) (by decide)
 have k1 := ok113 h (by omega) (by omega) wh (f0 := .sp 0 0) (f1 := .sp 0 1) rfl rfl
 have k2 := ok185 h path mh pl pm (f0 := .sp 0 0) (f1 := .sp 0 1) (f2 := .sp 1 0) rfl rfl rfl
 have k3 := ok261 h mh (f0 := .sp 0 0) (f1 := .sp 0 1) rfl rfl
 obtain ⟨f, g, hf, k4⟩ := ok189 h path mh pl pm (f0 := .sp 0 0) (f1 := .sp 0 1) (f2 := .sp 1 0) rfl rfl rfl
 have k5 := fun (f0 f1 : Fl) (q0 : inFl f0 = true) (q1 : inFl f1 = true) => ok185 (fbV h path) path (fbV_mid mh) pl pm (f0 := f0) (f1 := f1) (f2 := .sp 1 0) q0 q1 rfl
 cases hi : isHel h with
 | false =>
  rw [(hf_a (path := path) hi).1, (hf_a (path := path) hi).2.1, (hf_a (path := path) hi).2.2]
  refine ⟨_, _, .nn, ?_⟩
  rw [hi] at k1
  clear k2 k3 k4 k5
  generalize hr : (⟨_, [], none⟩ : Ret) = r
  obtain ⟨dv, hdv⟩ := nm (row fI h.versions)
  obtain ⟨dx, hdx⟩ := nm (row fExt h.exts)
  obtain ⟨ep, hep⟩ := nm (row fBox path)
  rw [← hdv, ← hdx] at k1
  rw [← hdv, ← hdx, ← hep]
  refine fix_fn2 (fn := ir184) tb_184 rfl rfl (by decide) rfl ?_; intro Q hQ; simp only [shutArgs, shutS, List.map_cons, List.map_nil, ir184, shut_in q0, shut_in q1, shut_in q2, List.head?_nil, reduceCtorEq, if_false, sExt, sHello, sAnswer, sEdit, sDeal, sBox, sDialed, sKnown]
  intro add sub mul arith eq ne lt le gt ge neg conv mn mx not beq len at' ln bd cut app allS isNil mks set o hP F ho
  rw [← ho] at k1
  cbv
  rw [k1]; cbv
  rw [show not false = true by rw [F.not]; rfl]; cbv
  rw [hQ]; cbv
  exact congrArg some hr
 | true =>
  rw [hi] at k1
  cases hp : pw h path with
  | true =>
   rw [(hf_b hi hp).1, (hf_b hi hp).2.1, (hf_b hi hp).2.2]
   refine ⟨_, _, .oo _ _, ?_⟩
   rw [hp] at k2
   clear k4 k5
   generalize hr : (⟨_, [], none⟩ : Ret) = r
   obtain ⟨dv, hdv⟩ := nm (row fI h.versions)
   obtain ⟨dx, hdx⟩ := nm (row fExt h.exts)
   obtain ⟨ep, hep⟩ := nm (row fBox path)
   rw [← hdv, ← hdx] at k1 k2 k3
   rw [← hep] at k2
   rw [← hdv, ← hdx, ← hep]
   rw [← hdv, ← hdx] at hr
   refine fix_fn2 (fn := ir184) tb_184 rfl rfl (by decide) rfl ?_; intro Q hQ; simp only [shutArgs, shutS, List.map_cons, List.map_nil, ir184, shut_in q0, shut_in q1, shut_in q2, List.head?_nil, reduceCtorEq, if_false, sExt, sHello, sAnswer, sEdit, sDeal, sBox, sDialed, sKnown]
   intro add sub mul arith eq ne lt le gt ge neg conv mn mx not beq len at' ln bd cut app allS isNil mks set o hP F ho
   rw [← ho] at k1 k2 k3
   cbv
   rw [k1]; cbv
   rw [show not true = false by rw [F.not]; rfl]; cbv
   rw [k2]; cbv
   rw [k3]; cbv
   rw [hQ]; cbv
   exact congrArg some hr
  | false =>
   rw [hp] at k2
   obtain ⟨w, hw⟩ := nm (fbOk h path)
   obtain ⟨v, hv⟩ := nm (pw (fbV h path) path)
   rw [← hw] at k4
   rw [← hv] at k5
   have hcv : hfC h path = (w && v) := by rw [hw, hv]; rfl
   obtain ⟨eV, heV⟩ := nm (row fI (fbV h path).versions)
   obtain ⟨eX, heX⟩ := nm (row fExt (fbV h path).exts)
   rw [← heV, ← heX] at k4 k5
   obtain ⟨dv, hdv⟩ := nm (row fI h.versions)
   obtain ⟨dx, hdx⟩ := nm (row fExt h.exts)
   obtain ⟨ep, hep⟩ := nm (row fBox path)
   rw [← hdv, ← hdx] at k1 k2 k3 k4
   rw [← hep] at k2 k4 k5
   have k6 := k5 (inA f 0 0) (inA g 0 1) (hf.inl 0 0) (hf.inr 0 1)
   have hf' := HF.fl hf
   cases hc : (w && v) with
   | false =>
    rw [hc] at hcv
    rw [(hf_c hi hp hcv).1, (hf_c hi hp hcv).2.1, (hf_c hi hp hcv).2.2]
    refine ⟨_, _, .nn, ?_⟩
    rw [← hdv, ← hdx, ← hep]
    rcases hf' with ⟨rfl, rfl⟩ | ⟨rfl, rfl⟩ | ⟨rfl, rfl⟩
    all_goals
     simp only [inA] at k6
     generalize hr : (⟨_, [], none⟩ : Ret) = r
     refine fix_fn2 (fn := ir184) tb_184 rfl rfl (by decide) rfl ?_; intro Q hQ; simp only [shutArgs, shutS, List.map_cons, List.map_nil, ir184, shut_in q0, shut_in q1, shut_in q2, List.head?_nil, reduceCtorEq, if_false, sExt, sHello, sAnswer, sEdit, sDeal, sBox, sDialed, sKnown]
     intro add sub mul arith eq ne lt le gt ge neg conv mn mx not beq len at' ln bd cut app allS isNil mks set o hP F ho
     rw [← ho] at k1 k2 k3 k4 k6
     cbv
     rw [k1]; cbv
     rw [show not true = false by rw [F.not]; rfl]; cbv
     rw [k2]; cbv
     rw [k4]; cbv
     refine both (fun d1 => ?_) (fun d1 => ?_) <;> rw [d1] <;> cbv
     ·rw [hQ]; cbv
      exact congrArg some hr
     rw [F.not_f d1, Bool.true_and] at hc
     rw [hc] at k6
     rw [k6]; cbv
     rw [show not false = true by rw [F.not]; rfl]; cbv
     rw [hQ]; cbv
     exact congrArg some hr
   | true =>
    rw [hc] at hcv
    rw [Bool.and_eq_true] at hc
    rw [(hf_d hi hp hcv).1, (hf_d hi hp hcv).2.1, (hf_d hi hp hcv).2.2]
    refine ⟨_, _, hf, ?_⟩
    rw [← heV, ← heX, ← hdv, ← hdx, ← hep]
    rw [hc.1] at k4
    rw [hc.2] at k6
    rcases hf' with ⟨rfl, rfl⟩ | ⟨rfl, rfl⟩ | ⟨rfl, rfl⟩
    all_goals
     simp only [inA] at k6
     generalize hr : (⟨_, [], none⟩ : Ret) = r
     refine fix_fn2 (fn := ir184) tb_184 rfl rfl (by decide) rfl ?_; intro Q hQ; simp only [shutArgs, shutS, List.map_cons, List.map_nil, ir184, shut_in q0, shut_in q1, shut_in q2, List.head?_nil, reduceCtorEq, if_false, sExt, sHello, sAnswer, sEdit, sDeal, sBox, sDialed, sKnown]
     intro add sub mul arith eq ne lt le gt ge neg conv mn mx not beq len at' ln bd cut app allS isNil mks set o hP F ho
     rw [← ho] at k1 k2 k3 k4 k6
     cbv
     rw [k1]; cbv
     rw [show not true = false by rw [F.not]; rfl]; cbv
     rw [k2]; cbv
     rw [k4]; cbv
     rw [show not true = false by rw [F.not]; rfl]; cbv
     rw [k6]; cbv
     rw [show not true = false by rw [F.not]; rfl]; cbv
     rw [hQ]; cbv
     exact congrArg some hr
theorem ok184t (h : Hello) (path : List Box) (mh : h.Mid) (pl : path.length ≤ 1073741824) (pm : ∀ y ∈ path, y.Mid) {f0 f1 f2 : Fl} (q0 : inFl f0 = true) (q1 : inFl f1 = true) (q2 : inFl f2 = true) :
  fix Tb md 184 [sHello (row fI h.versions) (row fExt h.exts) f0 f1, R (row fBox path) f2] = some ⟨[sHello (row fI (hfV h path).versions) (row fExt (hfV h path).exts) (.ow false) (.ow false), I (hfN h path), B (hfOk h path)], [], none⟩ ∨
  ((hfV h path).exts = [] ∧ fix Tb md 184 [sHello (row fI h.versions) (row fExt h.exts) f0 f1, R (row fBox path) f2] = some ⟨[sHello (row fI (hfV h path).versions) [] (.ow false) .nl, I (hfN h path), B (hfOk h path)], [], none⟩) ∨
  ((hfV h path).versions = [] ∧ (hfV h path).exts = [] ∧ fix Tb md 184 [sHello (row fI h.versions) (row fExt h.exts) f0 f1, R (row fBox path) f2] = some ⟨[sHello [] [] .nl .nl, I (hfN h path), B (hfOk h path)], [], none⟩) :=
 HF.three (P := fun V X f g => fix Tb md 184 [sHello (row fI h.versions) (row fExt h.exts) f0 f1, R (row fBox path) f2] = some ⟨[sHello V X f g, I (hfN h path), B (hfOk h path)], [], none⟩) (ok184 h path mh pl pm q0 q1 q2)
theorem hasI_iff {l : List Int} {n : Int} : hasI l n = true ↔ n ∈ l := by unfold hasI; simp
theorem con_f {x n : Int} (h : ¬ x = n) (l : List Int) : hasI (x :: l) n = hasI l n := by unfold hasI; simp [h]
theorem con_t {x n : Int} (h : x = n) (l : List Int) : hasI (x :: l) n = true := by unfold hasI; simp [h]
theorem ok188 (l : List Int) (n : Int) (hl : l.length ≤ 1099511627776) {f0 : Fl} (h0 : inFl f0 = true) : fix Tb md 188 [R (row fI l) f0, I n] = some ⟨[B (hasI l n)], [], none⟩ := by
 obtain ⟨z, hz⟩ := nm (hasI l n)
 rw [← hz]
 generalize hr : (⟨_, [], none⟩ : Ret) = r
 obtain ⟨ea, hea⟩ := nm (row fI l)
 rw [← hea]
 refine fix_fn2 (fn := ir188) tb_188 rfl rfl (by decide) rfl ?_; intro Q hQ; simp only [shutArgs, shutS, List.map_cons, List.map_nil, ir188, shut_in h0, List.head?_nil, reduceCtorEq, if_false, sExt, sHello, sAnswer, sEdit, sDeal, sBox, sDialed, sKnown]
 intro add sub mul arith eq ne lt le gt ge neg conv mn mx not beq len at' ln bd cut app allS isNil mks set o hP F ho
 have la := F.len_at hea
 cbv
 refine loop_ind2 hP (σ := List Int × List Int × Int) (fun s => [(0, R ea .sh), (1, I n), (4, B false), (5, I s.2.2)]) (fun s => At s.2.2 s.2.1.length ∧ l = s.2.1 ++ s.1 ∧ z = hasI s.1 n) (fun s => s.1.length) (l, [], 0) rfl ⟨rfl, rfl, hz⟩ ?_
 intro c9 Q1 hc9 hQ1
 rintro ⟨suf, pre, i⟩ ⟨hi, hl', hz'⟩ ih
 simp only at hi hl' hz' ih
 cbv
 cases suf with
 | nil =>
  rw [F.lt_f hi la (by simp [hl'])]; cbv
  rw [hQ1]; cbv
  rw [hQ]; cbv
  rw [show z = false by rw [hz']; rfl] at hr
  exact congrArg some hr
 | cons x suf =>
  obtain ⟨ix, hix⟩ := nm (pre.length * 1)
  have hpl : pre.length ≤ 1099511627776 := by rw [hl'] at hl; simp at hl; omega
  have p0 : at' 1 ea i = some (ix, [.int .i64 x]) := by rw [hix]; exact F.get hi hea hl' (fun _ => rfl) (by decide)
  have g : eq x n = decide (x = n) := F.eq ..
  rw [F.lt_t hi la (by simp [hl'])]; cbv
  rw [p0]; cbv
  refine both (fun d => ?_) (fun d => ?_) <;> rw [d] <;> cbv
  ·rw [g, decide_eq_true_eq] at d
   rw [hQ1]; cbv
   rw [hQ]; cbv
   rw [show z = true from hz'.trans (con_t d suf)] at hr
   exact congrArg some hr
  ·rw [g, decide_eq_false_iff_not] at d
   exact ih (suf, pre ++ [x], add .i64 i 1) ⟨at_len (F.inc hi hpl) (by simp), by rw [hl']; simp, hz'.trans (con_f d suf)⟩ (by simp)
def leftV (a b : List Int) : List Int := a.filter fun x => !hasI b x
theorem leftV_snoc (pre : List Int) (x : Int) (b : List Int) : leftV (pre ++ [x]) b = if hasI b x then leftV pre b else leftV pre b ++ [x] := by
 unfold leftV
 rw [List.filter_append]
 cases h : hasI b x <;> simp_all
theorem ok187 (a b : List Int) (hl : a.length ≤ 1099511627776) (hl2 : b.length ≤ 1099511627776) {f0 f1 : Fl} (h0 : inFl f0 = true) (h1 : inFl f1 = true) : fix Tb md 187 [R (row fI a) f0, R (row fI b) f1] = some ⟨[R (row fI (leftV a b)) (.ow false)], [], none⟩ := by
 have kc := fun (n : Int) => ok188 b n hl2 (f0 := .sp 0 0) rfl
 obtain ⟨T, hT⟩ := nm (leftV a b)
 rw [← hT]
 obtain ⟨et, het⟩ := nm (row fI T)
 rw [← het]
 generalize hr : (⟨_, [], none⟩ : Ret) = r
 obtain ⟨ea, hea⟩ := nm (row fI a)
 obtain ⟨eb, heb⟩ := nm (row fI b)
 rw [← hea, ← heb]
 rw [← heb] at kc
 refine fix_fn2 (fn := ir187) tb_187 rfl rfl (by decide) rfl ?_; intro Q hQ; simp only [shutArgs, shutS, List.map_cons, List.map_nil, ir187, shut_in h0, shut_in h1, List.head?_nil, reduceCtorEq, if_false, sExt, sHello, sAnswer, sEdit, sDeal, sBox, sDialed, sKnown]
 intro add sub mul arith eq ne lt le gt ge neg conv mn mx not beq len at' ln bd cut app allS isNil mks set o hP F ho
 rw [← ho] at kc
 have la := F.len_at hea
 cbv
 refine loop_ind2 hP (σ := List Int × List Int × Int × List (List V)) (fun s => [(0, R ea .sh), (1, R eb .sh), (4, R [] .nl), (5, R s.2.2.2 (.ow false)), (6, I s.2.2.1)]) (fun s => At s.2.2.1 s.2.1.length ∧ a = s.2.1 ++ s.1 ∧ s.2.2.2 = row fI (leftV s.2.1 b)) (fun s => s.1.length) (a, [], 0, []) rfl ⟨rfl, rfl, rfl⟩ ?_
 intro c9 Q1 hc9 hQ1
 rintro ⟨suf, pre, i, eo⟩ ⟨hi, hl', heo⟩ ih
 simp only at hi hl' heo ih
 cbv
 cases suf with
 | nil =>
  have hap : a = pre := by rw [hl', List.append_nil]
  rw [F.lt_f hi la (by simp [hl'])]; cbv
  rw [hQ1]; cbv
  rw [hQ]; cbv
  rw [het, hT, hap, ← heo] at hr
  exact congrArg some hr
 | cons x suf =>
  obtain ⟨ix, hix⟩ := nm (pre.length * 1)
  have hpl : pre.length < 1099511627776 := by rw [hl'] at hl; simp at hl; omega
  have p0 : at' 1 ea i = some (ix, [.int .i64 x]) := by rw [hix]; exact F.get hi hea hl' (fun _ => rfl) (by decide)
  have k := kc x
  have hsn := leftV_snoc pre x b
  have hll : (leftV pre b).length < 1099511627776 := Nat.lt_of_le_of_lt (List.length_filter_le ..) hpl
  obtain ⟨v, hv⟩ := nm (hasI b x)
  rw [← hv] at k hsn
  rw [F.lt_t hi la (by simp [hl'])]; cbv
  rw [p0]; cbv
  rw [k]; cbv
  cases v with
  | true =>
   rw [show not true = false by rw [F.not]; rfl]; cbv
   exact ih (suf, pre ++ [x], add .i64 i 1, eo) ⟨at_len (F.inc hi (by omega)) (by simp), by rw [hl']; simp, by rw [heo, hsn]; rfl⟩ (by simp)
  | false =>
   rw [show not false = true by rw [F.not]; rfl]; cbv
   rw [p0]; cbv
   obtain ⟨eo', heo'⟩ := nm (row fI (leftV pre b ++ [x]))
   rw [show allS [[.int .i64 x]] = true by rw [F.allS]; rfl]; cbv
   rw [show app 1 eo [[.int .i64 x]] = some eo' by rw [heo']; exact F.push (f := fI) heo (fun _ => rfl) rfl hll]; cbv
   exact ih (suf, pre ++ [x], add .i64 i 1, eo') ⟨at_len (F.inc hi (by omega)) (by simp), by rw [hl']; simp, by rw [heo', hsn]; rfl⟩ (by simp)
theorem fitL_U {vs : List V} (h : FitL [.int .u8] vs) : ∃ n, vs = fU n ∧ True := by
 obtain ⟨v, vs', rfl, h1, h2⟩ := fitL_cons h
 obtain ⟨n, rfl, h3⟩ := fit_int h1
 exact ⟨n, by rw [fitL_nil h2]; rfl, trivial⟩
def subB (a b : List Int) : Bool := a.all fun x => hasI b x
theorem ok178 (a b : List Int) (hl : a.length ≤ 1099511627776) (hl2 : b.length ≤ 1099511627776) {f0 f1 : Fl} (h0 : inFl f0 = true) (h1 : inFl f1 = true) : fix Tb md 178 [R (row fI a) f0, R (row fI b) f1] = some ⟨[B (subB a b)], [], none⟩ := by
 have kc := fun (n : Int) => ok188 b n hl2 (f0 := .sp 0 0) rfl
 obtain ⟨z, hz⟩ := nm (subB a b)
 rw [← hz]
 generalize hr : (⟨_, [], none⟩ : Ret) = r
 obtain ⟨ea, hea⟩ := nm (row fI a)
 obtain ⟨eb, heb⟩ := nm (row fI b)
 rw [← hea, ← heb]
 rw [← heb] at kc
 refine fix_fn2 (fn := ir178) tb_178 rfl rfl (by decide) rfl ?_; intro Q hQ; simp only [shutArgs, shutS, List.map_cons, List.map_nil, ir178, shut_in h0, shut_in h1, List.head?_nil, reduceCtorEq, if_false, sExt, sHello, sAnswer, sEdit, sDeal, sBox, sDialed, sKnown]
 intro add sub mul arith eq ne lt le gt ge neg conv mn mx not beq len at' ln bd cut app allS isNil mks set o hP F ho
 rw [← ho] at kc
 have la := F.len_at hea
 cbv
 refine loop_ind2 hP (σ := List Int × List Int × Int) (fun s => [(0, R ea .sh), (1, R eb .sh), (4, B false), (5, I s.2.2)]) (fun s => At s.2.2 s.2.1.length ∧ a = s.2.1 ++ s.1 ∧ z = subB s.1 b) (fun s => s.1.length) (a, [], 0) rfl ⟨rfl, rfl, hz⟩ ?_
 intro c9 Q1 hc9 hQ1
 rintro ⟨suf, pre, i⟩ ⟨hi, hl', hz'⟩ ih
 simp only at hi hl' hz' ih
 cbv
 cases suf with
 | nil =>
  rw [F.lt_f hi la (by simp [hl'])]; cbv
  rw [hQ1]; cbv
  rw [hQ]; cbv
  rw [show z = true by rw [hz']; rfl] at hr
  exact congrArg some hr
 | cons x suf =>
  obtain ⟨ix, hix⟩ := nm (pre.length * 1)
  have hpl : pre.length ≤ 1099511627776 := by rw [hl'] at hl; simp at hl; omega
  have p0 : at' 1 ea i = some (ix, [.int .i64 x]) := by rw [hix]; exact F.get hi hea hl' (fun _ => rfl) (by decide)
  have k := kc x
  obtain ⟨v, hv⟩ := nm (hasI b x)
  rw [← hv] at k
  have hz2 : z = (v && subB suf b) := by rw [hz', hv]; rfl
  rw [F.lt_t hi la (by simp [hl'])]; cbv
  rw [p0]; cbv
  rw [k]; cbv
  cases v with
  | false =>
   rw [show not false = true by rw [F.not]; rfl]; cbv
   rw [hQ1]; cbv
   rw [hQ]; cbv
   rw [show z = false by rw [hz2]; rfl] at hr
   exact congrArg some hr
  | true =>
   rw [show not true = false by rw [F.not]; rfl]; cbv
   exact ih (suf, pre ++ [x], add .i64 i 1) ⟨at_len (F.inc hi hpl) (by simp), by rw [hl']; simp, by rw [hz2]; rfl⟩ (by simp)
def isAns (v : Int) (l : List Ext) : Bool := inR v 1 9 && areEx l
def exI (e : Ext) : List Int := e.tag :: (e.body.length : Int) :: e.body
def encX (l : List Ext) : List Int := (l.length : Int) :: l.flatMap exI
theorem exOk_all : ∀ {suf pre : List Ext}, exOk pre suf = true → ∀ y ∈ suf, y.body.length ≤ 4 ∧ inR y.tag 0 255 = true ∧ bytes y.body = true
 | [], _, _, y, hy => by simp at hy
 | x :: suf, pre, h, y, hy => by
  simp only [exOk, Bool.and_eq_true] at h
  obtain ⟨⟨⟨⟨h1, h2⟩, h3⟩, h4⟩, h5⟩ := h
  rcases List.mem_cons.1 hy with rfl | hy
  ·refine ⟨?_, h1, h3⟩
   simp at h2; omega
  ·exact exOk_all h5 y hy
theorem areEx_all {l : List Ext} (h : areEx l = true) : l.length ≤ 6 ∧ ∀ y ∈ l, y.body.length ≤ 4 ∧ inR y.tag 0 255 = true ∧ bytes y.body = true := by
 simp only [areEx, Bool.and_eq_true, decide_eq_true_eq] at h
 exact ⟨h.2, exOk_all h.1⟩
theorem exI_len : ∀ {l : List Ext}, (∀ y ∈ l, y.body.length ≤ 4) → (l.flatMap exI).length ≤ 6 * l.length
 | [], _ => by simp
 | x :: l, h => by
  have h1 := h x (by simp)
  have h2 := exI_len (l := l) (fun y hy => h y (by simp [hy]))
  rw [List.flatMap_cons, List.length_append, List.length_cons]
  simp only [exI, List.length_cons]
  omega
theorem encX_len {l : List Ext} (h : areEx l = true) : (encX l).length ≤ 37 := by
 obtain ⟨h1, h2⟩ := areEx_all h
 have := exI_len (fun y hy => (h2 y hy).1)
 simp only [encX, List.length_cons]
 omega
theorem ok293 (l : List Ext) (hok : areEx l = true) {f0 : Fl} (h0 : inFl f0 = true) : fix Tb md 293 [R (row fExt l) f0] = some ⟨[R (row fI (encX l)) (.ow false), B true], [], none⟩ := by
 obtain ⟨hl, hw⟩ := areEx_all hok
 obtain ⟨et, het⟩ := nm (row fI (encX l))
 rw [← het]
 generalize hr : (⟨_, [], none⟩ : Ret) = r
 obtain ⟨ea, hea⟩ := nm (row fExt l)
 rw [← hea]
 obtain ⟨nl, hnl⟩ := nm ((l.length : Int))
 obtain ⟨e0, he0⟩ := nm (row fI [nl])
 have hen : encX l = nl :: l.flatMap exI := by rw [hnl]; rfl
 refine fix_fn2 (fn := ir293) tb_293 rfl rfl (by decide) rfl ?_; intro Q hQ; simp only [shutArgs, shutS, List.map_cons, List.map_nil, ir293, shut_in h0, List.head?_nil, reduceCtorEq, if_false, sExt, sHello, sAnswer, sEdit, sDeal, sBox, sDialed, sKnown]
 intro add sub mul arith eq ne lt le gt ge neg conv mn mx not beq len at' ln bd cut app allS isNil mks set o hP F ho
 have la := F.len_at hea
 have lna : len ea = nl := by rw [hnl]; exact la
 have la' : At nl l.length := hnl
 have c1 : o 271 [R ea (.sp 0 0)] = some ⟨[B true], [], none⟩ := by rw [ho, hea, ← hok]; exact ok271 _ (by omega) (fun y hy => by have := (hw y hy).1; omega) rfl
 cbv
 rw [c1]; cbv
 rw [show not true = false by rw [F.not]; rfl]; cbv
 rw [lna]
 refine loop_ind2 hP (σ := List Ext × List Ext × List (List V) × Int) (fun s => [(0, R ea .sh), (2, R [] .nl), (3, B false), (4, R s.2.2.1 (.ow false)), (5, I s.2.2.2)]) (fun s => At s.2.2.2 s.2.1.length ∧ l = s.2.1 ++ s.1 ∧ s.2.2.1 = row fI (nl :: s.2.1.flatMap exI)) (fun s => s.1.length) (l, [], [[.int .i64 nl]], 0) rfl ⟨rfl, rfl, rfl⟩ ?_
 intro c1 Q1 hc1 hQ1
 rintro ⟨suf, pre, eo, i⟩ ⟨hi, hl', hb⟩ ih
 simp only at hi hl' hb ih
 have hpre : pre.length ≤ 6 := by rw [hl'] at hl; simp at hl; omega
 have hfl : (pre.flatMap exI).length ≤ 36 := by have := exI_len (l := pre) (fun y hy => (hw y (by rw [hl']; simp [hy])).1); omega
 cbv
 cases suf with
 | nil =>
  rw [F.lt_f hi la (by simp [hl'])]; cbv
  rw [hQ1]; cbv
  rw [hQ]; cbv
  rw [← hr, het, hb, hen, hl', List.append_nil]
 | cons x suf =>
  obtain ⟨ix, hix⟩ := nm (pre.length * 2)
  obtain ⟨e1, he1⟩ := nm (row fI x.body)
  obtain ⟨nb, hnb⟩ := nm ((x.body.length : Int))
  have hx := (hw x (by rw [hl']; simp)).1
  have hxi : exI x = x.tag :: nb :: x.body := by rw [hnb]; rfl
  have p0 : at' 2 ea i = some (ix, [.int .i64 x.tag, .row () e1]) := by rw [hix, he1]; exact F.get hi hea hl' (fun _ => rfl) (by decide)
  have l1 : len e1 = nb := by rw [hnb]; exact F.len_at he1
  obtain ⟨eo1, heo1⟩ := nm (row fI (nl :: pre.flatMap exI ++ [x.tag, nb]))
  obtain ⟨eo2, heo2⟩ := nm (row fI (nl :: (pre ++ [x]).flatMap exI))
  have q1 : app 1 eo [[.int .i64 x.tag], [.int .i64 nb]] = some eo1 := by
   have h := F.app' (f := fI) (k := 1) (e2 := [[.int .i64 x.tag], [.int .i64 nb]]) (l2 := [x.tag, nb]) hb rfl (fun _ => rfl) (by simp only [List.length_cons, List.length_append, List.length_nil]; omega)
   rw [h, heo1]
  have q2 : app 1 eo1 e1 = some eo2 := by
   have h := F.app' (f := fI) (k := 1) heo1 he1 (fun _ => rfl) (by simp only [List.length_cons, List.length_append, List.length_nil]; omega)
   rw [h, heo2, List.flatMap_append, List.flatMap_cons, hxi]; simp
  have q3 : allS [[.int .i64 x.tag], [.int .i64 nb]] = true := by rw [F.allS]; rfl
  have q4 : allS e1 = true := F.scal he1 (fun _ => rfl)
  rw [F.lt_t hi la (by simp [hl'])]; cbv
  rw [p0]; cbv
  repeat' (first | (rw [p0]; cbv) | (rw [l1]; cbv) | (rw [q1]; cbv) | (rw [q2]; cbv) | (rw [q3]; cbv) | (rw [q4]; cbv))
  refine ih (suf, pre ++ [x], eo2, add .i64 i 1) ⟨at_len (F.inc hi (by omega)) (by simp), by simp [hl'], heo2⟩ (by simp)
def ansB (a : Answer) : List Int := if isAns a.version a.exts = true then a.version :: encX a.exts else []
theorem ansB_len (a : Answer) : (ansB a).length ≤ 38 := by
 unfold ansB
 split
 ·rename_i h
  have hok : areEx a.exts = true := by unfold isAns at h; simp at h; exact h.2
  have := encX_len hok
  rw [List.length_cons]; omega
 ·simp
def resv (t : Int) : Bool := inR t 0 255 && decide (Int.tmod t 16 = 10)
def notRes (e : Ext) : Bool := !resv e.tag
def caOk (vs : List Int) (h : Hello) : Bool := isHel h && !decide (bestC vs h.versions = 0)
def caX (tg : List Int) (l : List Ext) : List Ext := sel notRes idE (sel (tagIn tg) idE l)
def caV (vs tg : List Int) (h : Hello) : Answer := if caOk vs h then ⟨bestC vs h.versions, caX tg h.exts⟩ else ⟨0, []⟩
theorem caV_mid {vs tg : List Int} {h : Hello} (m : h.Mid) : (caV vs tg h).Mid := by
 unfold caV
 split
 ·unfold Hello.Mid at m
  refine ⟨Nat.le_trans sel_len (Nat.le_trans sel_len m.2.1), fun y hy => m.2.2 y ?_⟩
  simp only [caX, sel_idE] at hy
  exact (List.mem_filter.1 (List.mem_filter.1 hy).1).1
 ·exact ⟨by simp, by simp⟩
def gEx (x : Ext) : Bool := inR x.tag 0 255 && !decide (4 < x.body.length) && bytes x.body
theorem exOk_iff : ∀ {suf pre : List Ext}, exOk pre suf = true ↔ (∀ x ∈ suf, gEx x = true ∧ ∀ y ∈ pre, y.tag ≠ x.tag) ∧ suf.Pairwise (fun x y => x.tag ≠ y.tag)
 | [], pre => by simp [exOk]
 | x :: suf, pre => by
  have hp : pre.any (tagP x.tag) = false ↔ ∀ y ∈ pre, y.tag ≠ x.tag := by simp [List.any_eq_false, tagP]
  unfold exOk
  simp only [Bool.and_eq_true, Bool.not_eq_true', exOk_iff (suf := suf) (pre := pre ++ [x]), List.pairwise_cons, hp]
  constructor
  ·rintro ⟨⟨⟨⟨a, b⟩, c⟩, d⟩, e, f⟩
   refine ⟨?_, fun y hy => ?_, f⟩
   ·intro z hz
    rcases List.mem_cons.1 hz with rfl | hz
    ·exact ⟨by unfold gEx; rw [a, b, c]; rfl, d⟩
    ·exact ⟨(e z hz).1, fun y hy => (e z hz).2 y (by simp [hy])⟩
   ·exact (e y hy).2 x (by simp)
  ·rintro ⟨h1, h2, h3⟩
   have hx := h1 x (by simp)
   unfold gEx at hx
   simp only [Bool.and_eq_true, Bool.not_eq_true'] at hx
   refine ⟨⟨⟨hx.1.1, hx.1.2⟩, hx.2⟩, fun z hz => ⟨(h1 z (by simp [hz])).1, fun y hy => ?_⟩, h3⟩
   rcases List.mem_append.1 hy with hy | hy
   ·exact (h1 z (by simp [hz])).2 y hy
   ·simp at hy; subst hy; exact h2 z hz
theorem areEx_iff {l : List Ext} : areEx l = true ↔ (∀ x ∈ l, gEx x = true) ∧ l.Pairwise (fun x y => x.tag ≠ y.tag) ∧ l.length ≤ 6 := by
 unfold areEx
 rw [Bool.and_eq_true, exOk_iff, decide_eq_true_eq]
 constructor
 ·rintro ⟨⟨h1, h2⟩, h3⟩; exact ⟨fun x hx => (h1 x hx).1, h2, h3⟩
 ·rintro ⟨h1, h2, h3⟩; exact ⟨⟨fun x hx => ⟨h1 x hx, by simp⟩, h2⟩, h3⟩
theorem areEx_sel {l : List Ext} {p : Ext → Bool} (h : areEx l = true) : areEx (sel p idE l) = true := by
 rw [sel_idE]
 obtain ⟨h1, h2, h3⟩ := areEx_iff.1 h
 exact areEx_iff.2 ⟨fun x hx => h1 x (List.mem_filter.1 hx).1, h2.filter _, Nat.le_trans (List.length_filter_le _ _) h3⟩
theorem bestC_in {a b : List Int} (h : bestC a b ≠ 0) : 1 ≤ bestC a b ∧ bestC a b ≤ 9 ∧ hasI b (bestC a b) = true ∧ hasI a (bestC a b) = true := by
 unfold bestC at h ⊢
 split at h
 ·rename_i hv
  rw [if_pos hv]
  rw [Bool.and_eq_true] at hv
  have hne : comm a b ≠ [] := fun e => by rw [e] at h; exact h rfl
  have hm : (comm a b).getLastD 0 ∈ comm a b := by
   rw [List.getLastD_eq_getLast?, List.getLast?_eq_some_getLast hne]
   exact List.getLast_mem hne
  obtain ⟨m, hmm⟩ : ∃ m, m = (comm a b).getLastD 0 := ⟨_, rfl⟩
  rw [← hmm] at hm ⊢
  have h1 := (comm_asc (b := b) hv.1).2 _ hm
  have h2 : m ∈ a ∧ hasI b m = true := by
   unfold comm at hm
   rw [sel_idI, List.mem_filter] at hm
   exact hm
  refine ⟨h1.1, h1.2, h2.2, ?_⟩
  unfold hasI
  rw [List.any_eq_true]
  exact ⟨_, h2.1, by simp⟩
 ·exact absurd rfl h
theorem caV_ans {vs tg : List Int} {h : Hello} (q : caOk vs h = true) : isAns (caV vs tg h).version (caV vs tg h).exts = true := by
 unfold caV
 rw [if_pos q]
 unfold caOk isHel at q
 simp only [Bool.and_eq_true, Bool.not_eq_true', decide_eq_false_iff_not] at q
 obtain ⟨⟨_, hx⟩, hb⟩ := q
 have := bestC_in hb
 unfold isAns
 rw [Bool.and_eq_true]
 refine ⟨?_, areEx_sel (areEx_sel hx)⟩
 unfold inR
 simp; omega
theorem caOk_hel {vs : List Int} {h : Hello} (q : caOk vs h = true) : isHel h = true := by
 unfold caOk at q; simp only [Bool.and_eq_true] at q; exact q.1
theorem ansB_ne {a : Answer} (q : isAns a.version a.exts = true) : ansB a ≠ [] := by unfold ansB; rw [if_pos q]; simp
theorem pb_clear {b : Box} {h : Hello} (c : isClear b.limit b.drops b.strips b.lists = true) (hh : isHel h = true) : pbOk b h = true ∧ pbV b h = h := by
 obtain ⟨lim, d, s, v⟩ := b
 unfold isClear at c
 simp only [Bool.and_eq_true, decide_eq_true_eq, List.isEmpty_iff, Bool.not_eq_true'] at c
 obtain ⟨⟨⟨rfl, rfl⟩, rfl⟩, rfl⟩ := c
 have hl : ∀ e, lost ⟨0, [], [], false⟩ e = false := fun e => by unfold lost hasI; simp
 have hn : h.exts.any (lost ⟨0, [], [], false⟩) = false := by rw [List.any_eq_false]; intro e _; rw [hl e]; simp
 have hs : ∀ e, stripE [] e = true := fun e => by unfold stripE hasI; simp
 have hb : isBox 0 [] [] = true := by decide
 have ho : overL ⟨0, [], [], false⟩ h = false := by unfold overL; simp
 have ok : pbOk ⟨0, [], [], false⟩ h = true := by unfold pbOk; simp only [hb, hh, ho, hn]; rfl
 refine ⟨ok, ?_⟩
 unfold pbV
 rw [if_pos ok]
 simp only [sel_idE]
 rw [List.filter_eq_self.2 (fun e _ => hs e)]
theorem pb_hel {b : Box} {h : Hello} (q : pbOk b h = true) : isHel (pbV b h) = true ∧ (pbV b h).versions = h.versions ∧ subB (sel yesE Ext.tag (pbV b h).exts) (sel yesE Ext.tag h.exts) = true ∧ sel (hasI b.strips) idI (sel yesE Ext.tag (pbV b h).exts) = [] := by
 have hh : isHel h = true := by
  have q' := q
  unfold pbOk at q'
  simp only [Bool.and_eq_true] at q'
  exact q'.1.1.2
 have e : pbV b h = ⟨h.versions, sel (stripE b.strips) idE h.exts⟩ := by unfold pbV; rw [if_pos q]
 rw [e]
 refine ⟨?_, rfl, ?_, ?_⟩
 ·unfold isHel at hh ⊢
  simp only [Bool.and_eq_true] at hh ⊢
  exact ⟨hh.1, areEx_sel hh.2⟩
 ·unfold subB
  rw [List.all_eq_true]
  intro t ht
  rw [hasI_iff]
  unfold sel at ht ⊢
  rw [List.mem_map] at ht ⊢
  obtain ⟨x, hx, rfl⟩ := ht
  refine ⟨x, ?_, rfl⟩
  rw [List.mem_filter] at hx ⊢
  have := hx.1
  rw [List.mem_map] at this
  obtain ⟨y, hy, rfl⟩ := this
  exact ⟨(List.mem_filter.1 hy).1, rfl⟩
 ·rw [List.eq_nil_iff_forall_not_mem]
  intro t ht
  rw [sel_idI, List.mem_filter] at ht
  obtain ⟨h1, h2⟩ := ht
  unfold sel at h1
  rw [List.mem_map] at h1
  obtain ⟨x, hx, rfl⟩ := h1
  have := (List.mem_filter.1 hx).1
  rw [List.mem_map] at this
  obtain ⟨y, hy, rfl⟩ := this
  have h3 := (List.mem_filter.1 hy).2
  unfold stripE at h3
  unfold idE at h2
  rw [h2] at h3
  simp at h3
theorem ppGo_clear : ∀ {p : List Box} {h : Hello}, p.all clearB = true → isHel h = true → ppGo p h = (h, true)
 | [], _, _, _ => rfl
 | b :: p, h, c, hh => by
  rw [List.all_cons, Bool.and_eq_true] at c
  obtain ⟨h1, h2⟩ := pb_clear (b := b) (h := h) c.1 hh
  unfold ppGo
  rw [if_pos h1, h2]
  exact ppGo_clear c.2 hh
theorem pp_clear {p : List Box} {h : Hello} (c : isCP p = true) : ppOk p h = isHel h := by
 unfold isCP at c
 rw [Bool.and_eq_true] at c
 unfold ppOk pp
 rw [c.2, Bool.and_true]
 cases hh : isHel h with
 | true => rw [if_pos rfl, ppGo_clear c.1 hh]
 | false => rfl
def notTag (t : Int) (e : Ext) : Bool := decide (e.tag ≠ t)
def neI (t x : Int) : Bool := decide (x ≠ t)
def dvOk (l : List Int) (v : Int) : Bool := areVer l && hasI l v && !decide (l.length = 1)
def dvV (l : List Int) (v : Int) : List Int := if dvOk l v then sel (neI v) idI l else l
theorem dvV_len {l : List Int} {v : Int} : (dvV l v).length ≤ l.length := by
 unfold dvV; split
 ·exact sel_len
 ·exact Nat.le_refl _
theorem notIn_one {v : Int} : notIn [v] = neI v := by
 funext x
 simp only [notIn, neI, hasI, List.any_cons, List.any_nil, Bool.or_false]
 by_cases h : v = x <;> simp [h, eq_comm]
def ehX (h : Hello) (n : Int) : List Ext := h.exts ++ [⟨n, []⟩]
def editH (h : Hello) (e : Edit) : Hello :=
 if e.kind = 1 then ⟨dvV h.versions e.n, h.exts⟩ else if e.kind = 2 then ⟨avV h.versions e.n, h.exts⟩ else if e.kind = 3 then ⟨h.versions, sel (notTag e.n) idE h.exts⟩ else if e.kind = 6 then (if areEx (ehX h e.n) = true then ⟨h.versions, ehX h e.n⟩ else h) else h
def hB (h : Hello) (n m : Nat) : Prop := h.versions.length ≤ n ∧ h.exts.length ≤ m ∧ ∀ y ∈ h.exts, y.body.length ≤ 1073741824
theorem editH_b {h : Hello} {e : Edit} {n m : Nat} (q : hB h n m) : hB (editH h e) (n + 1) (m + 1) := by
 obtain ⟨q1, q2, q3⟩ := q
 unfold editH
 split
 ·exact ⟨Nat.le_trans (Nat.le_trans dvV_len q1) (by omega), by show h.exts.length ≤ _; omega, q3⟩
 split
 ·exact ⟨by have := avV_len h.versions e.n; show (avV h.versions e.n).length ≤ _; omega, by show h.exts.length ≤ _; omega, q3⟩
 split
 ·refine ⟨by show h.versions.length ≤ _; omega, Nat.le_trans sel_len (by omega), fun y hy => q3 y ?_⟩
  simp only [sel_idE] at hy
  exact (List.mem_filter.1 hy).1
 split
 ·split
  ·refine ⟨by show h.versions.length ≤ _; omega, by show (ehX h e.n).length ≤ _; simp [ehX]; omega, fun y hy => ?_⟩
   simp only [ehX] at hy
   rcases List.mem_append.1 hy with hy | hy
   ·exact q3 y hy
   ·simp at hy; subst hy; simp
  ·exact ⟨by omega, by omega, q3⟩
 ·exact ⟨by omega, by omega, q3⟩
theorem hB_mid {h : Hello} {n : Nat} (q : hB h n n) (hn : n ≤ 1073741824) : h.Mid := ⟨Nat.le_trans q.1 hn, Nat.le_trans q.2.1 hn, q.2.2⟩
theorem find_none_of {l : List Ext} {t : Int} (h : ∀ e ∈ l, e.tag ≠ t) : extOf l t < 0 := by
 rcases extOf_find l t with ⟨_, e⟩ | ⟨pre, d, suf, h1, _, _, h4⟩
 ·rw [e]; decide
 ·have := List.find?_some h4
  unfold tagP at this
  exact absurd (by simpa using this) (h d (by rw [h1]; simp))
theorem find_some_of {l : List Ext} {e : Ext} (h : e ∈ l) : ¬ extOf l e.tag < 0 := by
 rcases extOf_find l e.tag with ⟨h1, _⟩ | ⟨pre, d, suf, _, _, h3, _⟩
 ·rw [List.find?_eq_none] at h1
  exact absurd (by simp [tagP]) (h1 e h)
 ·omega
theorem verGo_of : ∀ (suf pre : List Int), (∀ y, pre.getLast? = some y → ∀ x ∈ suf, y < x) → suf.Pairwise (· < ·) → (∀ x ∈ suf, 1 ≤ x ∧ x ≤ 9) → verGo pre suf = true
 | [], _, _, _, _ => rfl
 | x :: suf, pre, h1, h2, h3 => by
  unfold verGo
  rw [List.pairwise_cons] at h2
  have hx := h3 x (by simp)
  have e1 : inR x 1 9 = true := by unfold inR; simp [hx]
  have e2 : verGo (pre ++ [x]) suf = true := verGo_of suf _ (fun y hy => by simp at hy; subst hy; exact h2.1) h2.2 (fun y hy => h3 y (by simp [hy]))
  rw [e1, e2]
  cases hp : pre.getLast? with
  | none => rfl
  | some y =>
   have := h1 y hp x (by simp)
   simp; omega
theorem areVer_of {l : List Int} (h0 : l ≠ []) (h2 : l.Pairwise (· < ·)) (h3 : ∀ x ∈ l, 1 ≤ x ∧ x ≤ 9) : areVer l = true := by
 unfold areVer
 rw [verGo_of l [] (by simp) h2 h3]
 simp [List.length_pos_iff, h0]
theorem areVer_sel {l : List Int} {p : Int → Bool} (h : areVer l = true) (h0 : l.filter p ≠ []) : areVer (l.filter p) = true := by
 obtain ⟨h1, h2⟩ := areVer_asc h
 exact areVer_of h0 (h1.filter p) (fun x hx => h2 x (List.mem_filter.1 hx).1)
theorem areVer_one {l : List Int} {v : Int} (h : areVer l = true) (hv : v ∈ l) : areVer [v] = true := by
 obtain ⟨_, h2⟩ := areVer_asc h
 exact areVer_of (by simp) (by simp) (fun x hx => by simp at hx; rw [hx]; exact h2 v hv)
theorem le_last {l : List Int} {v : Int} (h : areVer l = true) (hv : v ∈ l) : v ≤ lastI l := by
 obtain ⟨h1, _⟩ := areVer_asc h
 obtain ⟨p, y, rfl⟩ : ∃ p y, l = p ++ [y] := by
  rcases List.eq_nil_or_concat l with h0 | ⟨p, y, h0⟩
  ·rw [h0] at hv; simp at hv
  ·exact ⟨p, y, by rw [h0, List.concat_eq_append]⟩
 have e : lastI (p ++ [y]) = y := by simp [lastI]
 rw [e]
 rcases List.mem_append.1 hv with h | h
 ·have := (List.pairwise_append.1 h1).2.2 v h y (by simp); omega
 ·simp at h; omega
theorem ppGo_le : ∀ (p : List Box) (h : Hello), (ppGo p h).1.exts.length ≤ h.exts.length
 | [], _ => Nat.le_refl _
 | b :: p, h => by
  unfold ppGo
  split
  ·rename_i q
   refine Nat.le_trans (ppGo_le p _) ?_
   unfold pbV
   rw [if_pos q]
   exact sel_len
  ·simp
theorem ppGo_whole : ∀ {p : List Box} {h : Hello}, ppGo p h = (h, true) → ∀ b ∈ p, pbOk b h = true ∧ ∀ e ∈ h.exts, stripE b.strips e = true
 | [], _, _ => by simp
 | b :: p, h, e => by
  unfold ppGo at e
  split at e
  ·rename_i q
   have hl := ppGo_le p (pbV b h)
   rw [e] at hl
   have hv : pbV b h = ⟨h.versions, h.exts.filter (stripE b.strips)⟩ := by unfold pbV; rw [if_pos q, sel_idE]
   rw [hv] at hl e
   simp only at hl
   have hf : h.exts.filter (stripE b.strips) = h.exts := (List.filter_sublist (p := stripE b.strips) (l := h.exts)).eq_of_length_le hl
   rw [hf] at e
   intro c hc
   rcases List.mem_cons.1 hc with rfl | hc
   ·exact ⟨q, List.filter_eq_self.1 hf⟩
   ·exact ppGo_whole e c hc
  ·cases e
theorem ppGo_all : ∀ {p : List Box} {h : Hello}, (∀ b ∈ p, pbOk b h = true ∧ ∀ e ∈ h.exts, stripE b.strips e = true) → ppGo p h = (h, true)
 | [], _, _ => rfl
 | b :: p, h, k => by
  obtain ⟨q, hs⟩ := k b (by simp)
  unfold ppGo
  rw [if_pos q]
  have hv : pbV b h = h := by
   unfold pbV
   rw [if_pos q, sel_idE, List.filter_eq_self.2 hs]
  rw [hv]
  exact ppGo_all (fun c hc => k c (by simp [hc]))
theorem part_whole {p : List Box} {v : List Int} {x : List Ext} (hh : isHel ⟨v, x⟩ = true) (e : ppGo p ⟨v, x⟩ = (⟨v, x⟩, true)) {v0 : Int} (hv : v0 ∈ v) {y : List Ext} (hy : ∀ z ∈ y, z ∈ x) (hay : areEx y = true) : ppGo p ⟨[v0], y⟩ = (⟨[v0], y⟩, true) := by
 have k := ppGo_whole e
 have hver : areVer v = true := by unfold isHel at hh; simp only [Bool.and_eq_true] at hh; exact hh.1
 refine ppGo_all (fun b hb => ?_)
 obtain ⟨q, hs⟩ := k b hb
 refine ⟨?_, fun z hz => hs z (hy z hz)⟩
 unfold pbOk at q ⊢
 simp only [Bool.and_eq_true, Bool.not_eq_true'] at q ⊢
 obtain ⟨⟨⟨q1, q2⟩, q3⟩, q4⟩ := q
 refine ⟨⟨⟨q1, ?_⟩, ?_⟩, ?_⟩
 ·unfold isHel; rw [areVer_one hver hv, hay]; rfl
 ·unfold overL at q3 ⊢
  have := le_last hver hv
  have e : lastI [v0] = v0 := rfl
  change (decide (0 < b.limit) && decide (b.limit < lastI v)) = false at q3
  show (decide (0 < b.limit) && decide (b.limit < lastI [v0])) = false
  rw [e]
  simp only [Bool.and_eq_false_iff, decide_eq_false_iff_not] at q3 ⊢
  rcases q3 with h | h
  ·exact .inl h
  ·right; omega
 ·rw [List.any_eq_false] at q4 ⊢
  exact fun z hz => q4 z (hy z hz)
theorem areEx_one {x : List Ext} {e : Ext} (h : areEx x = true) (he : e ∈ x) : areEx [e] = true := by
 obtain ⟨h1, h2, h3⟩ := areEx_iff.1 h
 exact areEx_iff.2 ⟨fun z hz => by simp at hz; rw [hz]; exact h1 e he, by simp, by simp⟩
theorem areEx_nil : areEx [] = true := by decide
theorem ppOk_of {p : List Box} {h : Hello} (hl : p.length ≤ 4) (hh : isHel h = true) (e : ppGo p h = (h, true)) : ppOk p h = true ∧ ppV p h = h := by
 unfold ppOk ppV pp
 rw [hh, decide_eq_true hl, e]
 exact ⟨rfl, rfl⟩
theorem none_lost {p : List Box} {v : List Int} {x : List Ext} (hl : p.length ≤ 4) (k : ∀ v0 ∈ v, ∀ y, (∀ z ∈ y, z ∈ x) → areEx y = true → areVer v = true → ppGo p ⟨[v0], y⟩ = (⟨[v0], y⟩, true)) : lvs p v = [] ∧ ltags p v x = [] := by
 have hel : ∀ v0 ∈ v, ∀ y, areEx y = true → areVer v = true → isHel ⟨[v0], y⟩ = true := fun v0 hv y hy h => by unfold isHel; rw [areVer_one h hv, hy]; rfl
 constructor
 ·unfold lvs
  split
  ·rename_i h
   rw [sel_idI, List.filter_eq_nil_iff]
   intro v0 hv
   unfold deadV
   rw [(ppOk_of hl (hel v0 hv [] areEx_nil h) (k v0 hv [] (by simp) areEx_nil h)).1]
   simp
  ·rfl
 ·unfold ltags
  split
  ·rename_i h
   rw [Bool.and_eq_true] at h
   unfold sel
   rw [List.map_eq_nil_iff, List.filter_eq_nil_iff]
   intro e he
   have hver : areVer v = true := by have := h.2; unfold iop at this; rw [Bool.and_eq_true] at this; exact this.1
   cases v with
   | nil => simp [areVer] at hver
   | cons v0 t =>
    unfold deadE pw
    have h1 := areEx_one h.1 he
    obtain ⟨a, b⟩ := ppOk_of hl (hel v0 (by simp) [e] h1 hver) (k v0 (by simp) [e] (by simpa using he) h1 hver)
    rw [show (v0 :: t).take 1 = [v0] from rfl, a, b]
    simp
  ·rfl
theorem lost_clear {p : List Box} {v : List Int} {x : List Ext} (c : isCP p = true) : lvs p v = [] ∧ ltags p v x = [] := by
 unfold isCP at c
 rw [Bool.and_eq_true, decide_eq_true_eq] at c
 exact none_lost c.2 (fun v0 hv y hy hay h => ppGo_clear c.1 (by unfold isHel; rw [areVer_one h hv, hay]; rfl))
theorem lost_whole {p : List Box} {v : List Int} {x : List Ext} (h1 : ppOk p ⟨v, x⟩ = true) (h2 : ppV p ⟨v, x⟩ = ⟨v, x⟩) : lvs p v = [] ∧ ltags p v x = [] := by
 unfold ppOk at h1
 unfold ppV at h2
 unfold pp at h1 h2
 split at h1
 ·rename_i q
  rw [if_pos q] at h2
  rw [Bool.and_eq_true, decide_eq_true_eq] at q
  exact none_lost q.2 (fun v0 hv y hy hay _ => part_whole q.1 (Prod.ext h2 h1) hv hy hay)
 ·cases h1
theorem lvs_sub (p : List Box) (v : List Int) : subB (lvs p v) v = true := by
 unfold subB lvs
 rw [List.all_eq_true]
 intro t ht
 rw [hasI_iff]
 split at ht
 ·rw [sel_idI] at ht; exact (List.mem_filter.1 ht).1
 ·simp at ht
theorem ltags_sub (p : List Box) (v : List Int) (x : List Ext) : subB (ltags p v x) (sel yesE Ext.tag x) = true := by
 unfold subB ltags
 rw [List.all_eq_true]
 intro t ht
 rw [hasI_iff]
 split at ht
 ·unfold sel at ht ⊢
  rw [List.mem_map] at ht ⊢
  obtain ⟨e, he, rfl⟩ := ht
  exact ⟨e, List.mem_filter.2 ⟨(List.mem_filter.1 he).1, rfl⟩, rfl⟩
 ·simp at ht
theorem part_good {h : Hello} {lv tg : List Int} (q : partOk h lv = true) : isHel (partV h lv tg) = true ∧ sel (hasI lv) idI (partV h lv tg).versions = [] ∧ sel (hasI tg) idI (sel yesE Ext.tag (partV h lv tg).exts) = [] ∧ isHel ⟨h.versions, []⟩ = true := by
 have e : partV h lv tg = ⟨h.versions.filter (notIn lv), h.exts.filter (notTagIn tg)⟩ := by unfold partV; rw [if_pos q, sel_idI, sel_idE]
 unfold partOk at q
 rw [sel_idI] at q
 simp only [Bool.and_eq_true, Bool.not_eq_true', decide_eq_false_iff_not] at q
 obtain ⟨q1, q2⟩ := q
 have hne : h.versions.filter (notIn lv) ≠ [] := fun e => q2 (by rw [e]; rfl)
 unfold isHel at q1
 simp only [Bool.and_eq_true] at q1
 rw [e]
 refine ⟨?_, ?_, ?_, ?_⟩
 ·unfold isHel
  simp only
  have := areEx_sel (p := notTagIn tg) q1.2
  rw [sel_idE] at this
  rw [areVer_sel q1.1 hne, this]; rfl
 ·rw [sel_idI, List.filter_eq_nil_iff]
  intro t ht
  have := (List.mem_filter.1 ht).2
  unfold notIn at this
  simpa using this
 ·rw [sel_idI, List.filter_eq_nil_iff]
  intro t ht
  unfold sel at ht
  rw [List.mem_map] at ht
  obtain ⟨z, hz, rfl⟩ := ht
  have := (List.mem_filter.1 (List.mem_filter.1 hz).1).2
  unfold notTagIn at this
  simpa using this
 ·unfold isHel; rw [q1.1, areEx_nil]; rfl
end Go.Vm
