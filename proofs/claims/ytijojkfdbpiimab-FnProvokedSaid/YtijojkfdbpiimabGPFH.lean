/- What the functions answer. -/
import Derived.Test.YtijojkfdbpiimabGPTab
import Derived.Test.YtijojkfdbpiimabGPFA
import Derived.Test.YtijojkfdbpiimabGPFB
import Derived.Test.YtijojkfdbpiimabGPFC
import Derived.Test.YtijojkfdbpiimabGPFD
import Derived.Test.YtijojkfdbpiimabGPFE
import Derived.Test.YtijojkfdbpiimabGPFF
import Derived.Test.YtijojkfdbpiimabGPFG
set_option maxHeartbeats 4000000
set_option maxRecDepth 10000
set_option linter.unusedVariables false
set_option linter.unusedSimpArgs false
namespace Go.Vm
def fbL (h : Hello) (path : List Box) : List Int := lvs path h.versions
def fbT (h : Hello) (path : List Box) : List Int := ltags path (sel (notIn (fbL h path)) idI h.versions) h.exts
def fbV (h : Hello) (path : List Box) : Hello := partV h (fbL h path) (fbT h path)
def fbOk (h : Hello) (path : List Box) : Bool := partOk h (fbL h path)
theorem fbV_mid {h : Hello} {path : List Box} (m : h.Mid) : (fbV h path).Mid := partV_mid m
theorem fb_no {h : Hello} {path : List Box} (hi : isHel h = false) : fbOk h path = false ∧ fbV h path = ⟨[], []⟩ := by
 have h1 : fbOk h path = false := by unfold fbOk partOk; rw [hi]; rfl
 refine ⟨h1, ?_⟩
 unfold fbV partV
 rw [show partOk h (fbL h path) = false from h1]; rfl
inductive HF : List Int → List Ext → Fl → Fl → Prop
 | oo (V : List Int) (X : List Ext) : HF V X (.ow false) (.ow false)
 | on (V : List Int) : HF V [] (.ow false) .nl
 | nn : HF [] [] .nl .nl
theorem HF.three {vs : List Int} {xs : List Ext} {P : List (List V) → List (List V) → Fl → Fl → Prop} (h : ∃ f g, HF vs xs f g ∧ P (row fI vs) (row fExt xs) f g) : P (row fI vs) (row fExt xs) (.ow false) (.ow false) ∨ (xs = [] ∧ P (row fI vs) [] (.ow false) .nl) ∨ (vs = [] ∧ xs = [] ∧ P [] [] .nl .nl) := by
 obtain ⟨f, g, h1, h2⟩ := h
 cases h1 with
 | oo => exact .inl h2
 | on => exact .inr (.inl ⟨rfl, h2⟩)
 | nn => exact .inr (.inr ⟨rfl, rfl, h2⟩)
theorem HF.of3 {vs : List Int} {xs : List Ext} {P : List (List V) → List (List V) → Fl → Fl → Prop} (h : P (row fI vs) (row fExt xs) (.ow false) (.ow false) ∨ (xs = [] ∧ P (row fI vs) [] (.ow false) .nl) ∨ (vs = [] ∧ xs = [] ∧ P [] [] .nl .nl)) : ∃ f g, HF vs xs f g ∧ P (row fI vs) (row fExt xs) f g := by
 rcases h with h | ⟨rfl, h⟩ | ⟨rfl, rfl, h⟩
 ·exact ⟨_, _, .oo _ _, h⟩
 ·exact ⟨_, _, .on _, h⟩
 ·exact ⟨_, _, .nn, h⟩
theorem HF.of2 {vs : List Int} {xs : List Ext} {P : List (List V) → List (List V) → Fl → Fl → Prop} (h : P (row fI vs) (row fExt xs) (.ow false) (.ow false) ∨ (vs = [] ∧ xs = [] ∧ P [] [] .nl .nl)) : ∃ f g, HF vs xs f g ∧ P (row fI vs) (row fExt xs) f g := by
 rcases h with h | ⟨rfl, rfl, h⟩
 ·exact ⟨_, _, .oo _ _, h⟩
 ·exact ⟨_, _, .nn, h⟩
theorem HF.fl {vs : List Int} {xs : List Ext} {f g : Fl} (h : HF vs xs f g) : (f = .ow false ∧ g = .ow false) ∨ (f = .ow false ∧ g = .nl) ∨ (f = .nl ∧ g = .nl) := by cases h <;> simp
def inA (f : Fl) (i c : Nat) : Fl := match f with | .ow _ => .sp i c | f => f
theorem HF.inl {vs : List Int} {xs : List Ext} {f g : Fl} (h : HF vs xs f g) (i c : Nat) : inFl (inA f i c) = true := by cases h <;> rfl
theorem HF.inr {vs : List Int} {xs : List Ext} {f g : Fl} (h : HF vs xs f g) (i c : Nat) : inFl (inA g i c) = true := by cases h <;> rfl
theorem ok189 (h : Hello) (path : List Box) (mh : h.Mid) (pl : path.length ≤ 1073741824) (pm : ∀ y ∈ path, y.Mid) {f0 f1 f2 : Fl} (q0 : inFl f0 = true) (q1 : inFl f1 = true) (q2 : inFl f2 = true) :
  ∃ f g, HF (fbV h path).versions (fbV h path).exts f g ∧ fix Tb md 189 [sHello (row fI h.versions) (row fExt h.exts) f0 f1, R (row fBox path) f2] = some ⟨[sHello (row fI (fbV h path).versions) (row fExt (fbV h path).exts) f g, B (fbOk h path)], [], none⟩ := by
 have mh' := mh
 unfold Hello.Mid at mh'
 have hvl := mh'.1
 have hxl := mh'.2.1
 have wh : ∀ y ∈ h.exts, y.body.length ≤ 1099511627776 := fun y hy => Nat.le_trans (show y.body.length ≤ 1073741824 from mh'.2.2 y hy) (by decide)
 have wm : ∀ y ∈ h.exts, y.body.length ≤ 1073741824 := fun y hy => mh'.2.2 y hy
 have a1 : (fbL h path).length ≤ 1073741824 := Nat.le_trans lvs_len hvl
 have a2 : (sel (notIn (fbL h path)) idI h.versions).length ≤ 1073741824 := Nat.le_trans sel_len hvl
 have a3 : (fbT h path).length ≤ 1073741824 := Nat.le_trans ltags_len hxl
 have hk := HF.of2 (P := fun V X f g => fix Tb md 165 [sHello (row fI h.versions) (row fExt h.exts) (.sp 0 0) (.sp 0 1), R (row fI (fbL h path)) (.sp 1 0), R (row fI (fbT h path)) (.sp 2 0)] = some ⟨[sHello V X f g, B (fbOk h path)], [], none⟩) (ok165 h (fbL h path) (fbT h path) mh a1 a3 (f0 := .sp 0 0) (f1 := .sp 0 1) (f2 := .sp 1 0) (f3 := .sp 2 0) rfl rfl rfl rfl)
 obtain ⟨f, g, hf, hk⟩ := hk
 refine ⟨f, g, hf, ?_⟩
 have k1 := ok171 path h.versions pl pm hvl (f0 := .sp 0 0) (f1 := .sp 1 0) rfl rfl
 have k2 := ok287 h.versions (fbL h path) hvl a1 (f0 := .sp 0 0) (f1 := .sp 1 0) rfl rfl
 have k3 := ok186 path (sel (notIn (fbL h path)) idI h.versions) h.exts pl pm a2 hxl wm (f0 := .sp 0 0) (f1 := .sp 1 0) (f2 := .sp 2 0) rfl rfl rfl
 rw [show lvs path h.versions = fbL h path from rfl] at k1
 rw [show ltags path (sel (notIn (fbL h path)) idI h.versions) h.exts = fbT h path from rfl] at k3
 obtain ⟨w, hw⟩ := nm (fbOk h path)
 rw [← hw] at hk ⊢
 obtain ⟨eV, heV⟩ := nm (row fI (fbV h path).versions)
 obtain ⟨eX, heX⟩ := nm (row fExt (fbV h path).exts)
 rw [show row fI (partV h (fbL h path) (fbT h path)).versions = eV from heV.symm, show row fExt (partV h (fbL h path) (fbT h path)).exts = eX from heX.symm] at hk
 rw [← heV, ← heX]
 obtain ⟨dv, hdv⟩ := nm (row fI h.versions)
 obtain ⟨dx, hdx⟩ := nm (row fExt h.exts)
 obtain ⟨ep, hep⟩ := nm (row fBox path)
 obtain ⟨el, hel⟩ := nm (row fI (fbL h path))
 obtain ⟨ew, hew⟩ := nm (row fI (sel (notIn (fbL h path)) idI h.versions))
 obtain ⟨et, het⟩ := nm (row fI (fbT h path))
 rw [← hdv, ← hdx, ← hel, ← het] at hk
 rw [← hdv, ← hep, ← hel] at k1
 rw [← hdv, ← hel, ← hew] at k2
 rw [← hep, ← hew, ← hdx, ← het] at k3
 rw [← hdv, ← hdx, ← hep]
 replace hf := HF.fl hf
 rcases hf with ⟨rfl, rfl⟩ | ⟨rfl, rfl⟩ | ⟨rfl, rfl⟩
 all_goals
  generalize hr : (⟨_, [], none⟩ : Ret) = r
  refine fix_fn2 (fn := ir189) tb_189 rfl rfl (by decide) rfl ?_; intro Q hQ; simp only [shutArgs, shutS, List.map_cons, List.map_nil, ir189, shut_in q0, shut_in q1, shut_in q2, List.head?_nil, reduceCtorEq, if_false, sExt, sHello, sAnswer, sEdit, sDeal, sBox, sDialed, sKnown]
  intro add sub mul arith eq ne lt le gt ge neg conv mn mx not beq len at' ln bd cut app allS isNil mks set o hP F ho
  have c2 : o 171 [R ep (.sp 0 0), R dv (.sp 1 0)] = some ⟨[R el (.ow false)], [], none⟩ := by rw [ho]; exact k1
  have c3 : o 287 [R dv (.sp 0 0), R el (.sp 1 0)] = some ⟨[R ew (.ow false)], [], none⟩ := by rw [ho]; exact k2
  have c4 : o 186 [R ep (.sp 0 0), R ew (.sp 1 0), R dx (.sp 2 0)] = some ⟨[R et (.ow false)], [], none⟩ := by rw [ho]; exact k3
  have c5 := hk
  rw [← ho] at c5
  cbv
  rw [c2]; cbv
  rw [c3]; cbv
  rw [c4]; cbv
  rw [c5]; cbv
  rw [hQ]; cbv
  exact congrArg some hr
theorem ok189t (h : Hello) (path : List Box) (mh : h.Mid) (pl : path.length ≤ 1073741824) (pm : ∀ y ∈ path, y.Mid) {f0 f1 f2 : Fl} (q0 : inFl f0 = true) (q1 : inFl f1 = true) (q2 : inFl f2 = true) :
  fix Tb md 189 [sHello (row fI h.versions) (row fExt h.exts) f0 f1, R (row fBox path) f2] = some ⟨[sHello (row fI (fbV h path).versions) (row fExt (fbV h path).exts) (.ow false) (.ow false), B (fbOk h path)], [], none⟩ ∨
  ((fbV h path).exts = [] ∧ fix Tb md 189 [sHello (row fI h.versions) (row fExt h.exts) f0 f1, R (row fBox path) f2] = some ⟨[sHello (row fI (fbV h path).versions) [] (.ow false) .nl, B (fbOk h path)], [], none⟩) ∨
  ((fbV h path).versions = [] ∧ (fbV h path).exts = [] ∧ fix Tb md 189 [sHello (row fI h.versions) (row fExt h.exts) f0 f1, R (row fBox path) f2] = some ⟨[sHello [] [] .nl .nl, B (fbOk h path)], [], none⟩) :=
 HF.three (P := fun V X f g => fix Tb md 189 [sHello (row fI h.versions) (row fExt h.exts) f0 f1, R (row fBox path) f2] = some ⟨[sHello V X f g, B (fbOk h path)], [], none⟩) (ok189 h path mh pl pm q0 q1 q2)
def hfC (h : Hello) (path : List Box) : Bool := fbOk h path && pw (fbV h path) path
def hfOk (h : Hello) (path : List Box) : Bool := isHel h && (pw h path || hfC h path)
def hfN (h : Hello) (path : List Box) : Int := if isHel h then (if pw h path then 1 else 2) else 0
def hfV (h : Hello) (path : List Box) : Hello := if isHel h then (if pw h path then h else if hfC h path then fbV h path else ⟨[], []⟩) else ⟨[], []⟩
theorem hfV_mid {h : Hello} {path : List Box} (m : h.Mid) : (hfV h path).Mid := by
 unfold hfV
 split
 ·split
  ·exact m
  ·split
   ·exact fbV_mid m
   ·exact ⟨by simp, by simp, by simp⟩
 ·exact ⟨by simp, by simp, by simp⟩
theorem hf_a {h : Hello} {path : List Box} (hi : isHel h = false) : hfOk h path = false ∧ hfN h path = 0 ∧ hfV h path = ⟨[], []⟩ := by
 unfold hfOk hfN hfV; rw [hi]; exact ⟨rfl, rfl, rfl⟩
theorem hf_b {h : Hello} {path : List Box} (hi : isHel h = true) (hp : pw h path = true) : hfOk h path = true ∧ hfN h path = 1 ∧ hfV h path = h := by
 unfold hfOk hfN hfV; rw [hi, hp]; exact ⟨rfl, rfl, rfl⟩
theorem hf_c {h : Hello} {path : List Box} (hi : isHel h = true) (hp : pw h path = false) (hc : hfC h path = false) : hfOk h path = false ∧ hfN h path = 2 ∧ hfV h path = ⟨[], []⟩ := by
 unfold hfOk hfN hfV; rw [hi, hp, hc]; exact ⟨rfl, rfl, rfl⟩
theorem hf_d {h : Hello} {path : List Box} (hi : isHel h = true) (hp : pw h path = false) (hc : hfC h path = true) : hfOk h path = true ∧ hfN h path = 2 ∧ hfV h path = fbV h path := by
 unfold hfOk hfN hfV; rw [hi, hp, hc]; exact ⟨rfl, rfl, rfl⟩
theorem ok184 (h : Hello) (path : List Box) (mh : h.Mid) (pl : path.length ≤ 1073741824) (pm : ∀ y ∈ path, y.Mid) {f0 f1 f2 : Fl} (q0 : inFl f0 = true) (q1 : inFl f1 = true) (q2 : inFl f2 = true) :
  ∃ f g, HF (hfV h path).versions (hfV h path).exts f g ∧ fix Tb md 184 [sHello (row fI h.versions) (row fExt h.exts) f0 f1, R (row fBox path) f2] = some ⟨[sHello (row fI (hfV h path).versions) (row fExt (hfV h path).exts) f g, I (hfN h path), B (hfOk h path)], [], none⟩ := by
 have mh' := mh
 unfold Hello.Mid at mh'
 have hvl := mh'.1
 have hxl := mh'.2.1
 have wh : ∀ y ∈ h.exts, y.body.length ≤ 1099511627776 := fun y hy => Nat.le_trans (show y.body.length ≤ 1073741824 from mh'.2.2 y hy) (by decide)
 have k1 := ok113 h (by omega) (by omega) wh (f0 := .sp 0 0) (f1 := .sp 0 1) rfl rfl
 have k2 := ok185 h path mh pl pm (f0 := .sp 0 0) (f1 := .sp 0 1) (f2 := .sp 1 0) rfl rfl rfl
 have k3 := ok261 h mh (f0 := .sp 0 0) (f1 := .sp 0 1) rfl rfl
 obtain ⟨f, g, hf, k4⟩ := ok189 h path mh pl pm (f0 := .sp 0 0) (f1 := .sp 0 1) (f2 := .sp 1 0) rfl rfl rfl
 have k5 := fun (f0 f1 : Fl) (q0 : inFl f0 = true) (q1 : inFl f1 = true) => ok185 (fbV h path) path (fbV_mid mh) pl pm (f0 := f0) (f1 := f1) (f2 := .sp 1 0) q0 q1 rfl
 cases hi : isHel h with
 | false =>
  rw [(hf_a (path := path) hi).1, (hf_a (path := path) hi).2.1, (hf_a (path := path) hi).2.2]
  refine ⟨_, _, .nn, ?_⟩
  rw [hi] at k1
  clear k2 k3 k4 k5
  generalize hr : (⟨_, [], none⟩ : Ret) = r
  obtain ⟨dv, hdv⟩ := nm (row fI h.versions)
  obtain ⟨dx, hdx⟩ := nm (row fExt h.exts)
  obtain ⟨ep, hep⟩ := nm (row fBox path)
  rw [← hdv, ← hdx] at k1
  rw [← hdv, ← hdx, ← hep]
  refine fix_fn2 (fn := ir184) tb_184 rfl rfl (by decide) rfl ?_; intro Q hQ; simp only [shutArgs, shutS, List.map_cons, List.map_nil, ir184, shut_in q0, shut_in q1, shut_in q2, List.head?_nil, reduceCtorEq, if_false, sExt, sHello, sAnswer, sEdit, sDeal, sBox, sDialed, sKnown]
  intro add sub mul arith eq ne lt le gt ge neg conv mn mx not beq len at' ln bd cut app allS isNil mks set o hP F ho
  rw [← ho] at k1
  cbv
  rw [k1]; cbv
  rw [show not false = true by rw [F.not]; rfl]; cbv
  rw [hQ]; cbv
  exact congrArg some hr
 | true =>
  rw [hi] at k1
  cases hp : pw h path with
  | true =>
   rw [(hf_b hi hp).1, (hf_b hi hp).2.1, (hf_b hi hp).2.2]
   refine ⟨_, _, .oo _ _, ?_⟩
   rw [hp] at k2
   clear k4 k5
   generalize hr : (⟨_, [], none⟩ : Ret) = r
   obtain ⟨dv, hdv⟩ := nm (row fI h.versions)
   obtain ⟨dx, hdx⟩ := nm (row fExt h.exts)
   obtain ⟨ep, hep⟩ := nm (row fBox path)
   rw [← hdv, ← hdx] at k1 k2 k3
   rw [← hep] at k2
   rw [← hdv, ← hdx, ← hep]
   rw [← hdv, ← hdx] at hr
   refine fix_fn2 (fn := ir184) tb_184 rfl rfl (by decide) rfl ?_; intro Q hQ; simp only [shutArgs, shutS, List.map_cons, List.map_nil, ir184, shut_in q0, shut_in q1, shut_in q2, List.head?_nil, reduceCtorEq, if_false, sExt, sHello, sAnswer, sEdit, sDeal, sBox, sDialed, sKnown]
   intro add sub mul arith eq ne lt le gt ge neg conv mn mx not beq len at' ln bd cut app allS isNil mks set o hP F ho
   rw [← ho] at k1 k2 k3
   cbv
   rw [k1]; cbv
   rw [show not true = false by rw [F.not]; rfl]; cbv
   rw [k2]; cbv
   rw [k3]; cbv
   rw [hQ]; cbv
   exact congrArg some hr
  | false =>
   rw [hp] at k2
   obtain ⟨w, hw⟩ := nm (fbOk h path)
   obtain ⟨v, hv⟩ := nm (pw (fbV h path) path)
   rw [← hw] at k4
   rw [← hv] at k5
   have hcv : hfC h path = (w && v) := by rw [hw, hv]; rfl
   obtain ⟨eV, heV⟩ := nm (row fI (fbV h path).versions)
   obtain ⟨eX, heX⟩ := nm (row fExt (fbV h path).exts)
   rw [← heV, ← heX] at k4 k5
   obtain ⟨dv, hdv⟩ := nm (row fI h.versions)
   obtain ⟨dx, hdx⟩ := nm (row fExt h.exts)
   obtain ⟨ep, hep⟩ := nm (row fBox path)
   rw [← hdv, ← hdx] at k1 k2 k3 k4
   rw [← hep] at k2 k4 k5
   have k6 := k5 (inA f 0 0) (inA g 0 1) (hf.inl 0 0) (hf.inr 0 1)
   have hf' := HF.fl hf
   cases hc : (w && v) with
   | false =>
    rw [hc] at hcv
    rw [(hf_c hi hp hcv).1, (hf_c hi hp hcv).2.1, (hf_c hi hp hcv).2.2]
    refine ⟨_, _, .nn, ?_⟩
    rw [← hdv, ← hdx, ← hep]
    rcases hf' with ⟨rfl, rfl⟩ | ⟨rfl, rfl⟩ | ⟨rfl, rfl⟩
    all_goals
     simp only [inA] at k6
     generalize hr : (⟨_, [], none⟩ : Ret) = r
     refine fix_fn2 (fn := ir184) tb_184 rfl rfl (by decide) rfl ?_; intro Q hQ; simp only [shutArgs, shutS, List.map_cons, List.map_nil, ir184, shut_in q0, shut_in q1, shut_in q2, List.head?_nil, reduceCtorEq, if_false, sExt, sHello, sAnswer, sEdit, sDeal, sBox, sDialed, sKnown]
     intro add sub mul arith eq ne lt le gt ge neg conv mn mx not beq len at' ln bd cut app allS isNil mks set o hP F ho
     rw [← ho] at k1 k2 k3 k4 k6
     cbv
     rw [k1]; cbv
     rw [show not true = false by rw [F.not]; rfl]; cbv
     rw [k2]; cbv
     rw [k4]; cbv
     refine both (fun d1 => ?_) (fun d1 => ?_) <;> rw [d1] <;> cbv
     ·rw [hQ]; cbv
      exact congrArg some hr
     rw [F.not_f d1, Bool.true_and] at hc
     rw [hc] at k6
     rw [k6]; cbv
     rw [show not false = true by rw [F.not]; rfl]; cbv
     rw [hQ]; cbv
     exact congrArg some hr
   | true =>
    rw [hc] at hcv
    rw [Bool.and_eq_true] at hc
    rw [(hf_d hi hp hcv).1, (hf_d hi hp hcv).2.1, (hf_d hi hp hcv).2.2]
    refine ⟨_, _, hf, ?_⟩
    rw [← heV, ← heX, ← hdv, ← hdx, ← hep]
    rw [hc.1] at k4
    rw [hc.2] at k6
    rcases hf' with ⟨rfl, rfl⟩ | ⟨rfl, rfl⟩ | ⟨rfl, rfl⟩
    all_goals
     simp only [inA] at k6
     generalize hr : (⟨_, [], none⟩ : Ret) = r
     refine fix_fn2 (fn := ir184) tb_184 rfl rfl (by decide) rfl ?_; intro Q hQ; simp only [shutArgs, shutS, List.map_cons, List.map_nil, ir184, shut_in q0, shut_in q1, shut_in q2, List.head?_nil, reduceCtorEq, if_false, sExt, sHello, sAnswer, sEdit, sDeal, sBox, sDialed, sKnown]
     intro add sub mul arith eq ne lt le gt ge neg conv mn mx not beq len at' ln bd cut app allS isNil mks set o hP F ho
     rw [← ho] at k1 k2 k3 k4 k6
     cbv
     rw [k1]; cbv
     rw [show not true = false by rw [F.not]; rfl]; cbv
     rw [k2]; cbv
     rw [k4]; cbv
     rw [show not true = false by rw [F.not]; rfl]; cbv
     rw [k6]; cbv
     rw [show not true = false by rw [F.not]; rfl]; cbv
     rw [hQ]; cbv
     exact congrArg some hr
theorem ok184t (h : Hello) (path : List Box) (mh : h.Mid) (pl : path.length ≤ 1073741824) (pm : ∀ y ∈ path, y.Mid) {f0 f1 f2 : Fl} (q0 : inFl f0 = true) (q1 : inFl f1 = true) (q2 : inFl f2 = true) :
  fix Tb md 184 [sHello (row fI h.versions) (row fExt h.exts) f0 f1, R (row fBox path) f2] = some ⟨[sHello (row fI (hfV h path).versions) (row fExt (hfV h path).exts) (.ow false) (.ow false), I (hfN h path), B (hfOk h path)], [], none⟩ ∨
  ((hfV h path).exts = [] ∧ fix Tb md 184 [sHello (row fI h.versions) (row fExt h.exts) f0 f1, R (row fBox path) f2] = some ⟨[sHello (row fI (hfV h path).versions) [] (.ow false) .nl, I (hfN h path), B (hfOk h path)], [], none⟩) ∨
  ((hfV h path).versions = [] ∧ (hfV h path).exts = [] ∧ fix Tb md 184 [sHello (row fI h.versions) (row fExt h.exts) f0 f1, R (row fBox path) f2] = some ⟨[sHello [] [] .nl .nl, I (hfN h path), B (hfOk h path)], [], none⟩) :=
 HF.three (P := fun V X f g => fix Tb md 184 [sHello (row fI h.versions) (row fExt h.exts) f0 f1, R (row fBox path) f2] = some ⟨[sHello V X f g, I (hfN h path), B (hfOk h path)], [], none⟩) (ok184 h path mh pl pm q0 q1 q2)
def modV (n m : Int) : Int := if inR m 1 1000000000000 = true then Int.tmod (IntKind.wrap .i64 (Int.tmod n m + m)) m else 0
theorem rem_nz {n m : Int} (h : m ≠ 0) : std.arith .rem .i64 n m = some (.int .i64 (Int.tmod n m)) := by
 show (if m = 0 then none else some (VA.int .i64 (Int.tmod n m))) = _
 rw [if_neg h]
def hstep (d x : Int) : Int := Int.tmod (IntKind.wrap .i64 (IntKind.wrap .i64 (IntKind.wrap .i64 (d * 1000003) + modV x 2147483647) + 13)) 2147483647
def hashV (l : List Int) : Int := l.foldl hstep 11
def isTr (l : List (List Int)) : Bool := l.all bytes && decide (l.length ≤ 12)
def hcons (h : Int) (b : List Int) : Int := hashV (h :: (b.length : Int) :: b)
def thash (l : List (List Int)) : Int := if isTr l = true then l.foldl hcons 1 else 0
def vKey (k : Int) : Bool := inR k 1 2147483646
def khash (k : Int) (l : List Int) : Int := hashV (k :: l ++ [k])
def finV (k : Int) (l : List (List Int)) (s : Int) : Int := if vKey k && isTr l && inR s 0 1 then khash k [s, thash l] else 0
def chkV (k : Int) (l : List (List Int)) (s f : Int) : Bool := !decide (f = 0) && decide (finV k l s = f)
def isAns (v : Int) (l : List Ext) : Bool := inR v 1 9 && areEx l
def exI (e : Ext) : List Int := e.tag :: (e.body.length : Int) :: e.body
def encX (l : List Ext) : List Int := (l.length : Int) :: l.flatMap exI
theorem exOk_all : ∀ {suf pre : List Ext}, exOk pre suf = true → ∀ y ∈ suf, y.body.length ≤ 4 ∧ inR y.tag 0 255 = true ∧ bytes y.body = true
 | [], _, _, y, hy => by simp at hy
 | x :: suf, pre, h, y, hy => by
  simp only [exOk, Bool.and_eq_true] at h
  obtain ⟨⟨⟨⟨h1, h2⟩, h3⟩, h4⟩, h5⟩ := h
  rcases List.mem_cons.1 hy with rfl | hy
  ·refine ⟨?_, h1, h3⟩
   simp at h2; omega
  ·exact exOk_all h5 y hy
theorem areEx_all {l : List Ext} (h : areEx l = true) : l.length ≤ 6 ∧ ∀ y ∈ l, y.body.length ≤ 4 ∧ inR y.tag 0 255 = true ∧ bytes y.body = true := by
 simp only [areEx, Bool.and_eq_true, decide_eq_true_eq] at h
 exact ⟨h.2, exOk_all h.1⟩
theorem exI_len : ∀ {l : List Ext}, (∀ y ∈ l, y.body.length ≤ 4) → (l.flatMap exI).length ≤ 6 * l.length
 | [], _ => by simp
 | x :: l, h => by
  have h1 := h x (by simp)
  have h2 := exI_len (l := l) (fun y hy => h y (by simp [hy]))
  rw [List.flatMap_cons, List.length_append, List.length_cons]
  simp only [exI, List.length_cons]
  omega
theorem encX_len {l : List Ext} (h : areEx l = true) : (encX l).length ≤ 37 := by
 obtain ⟨h1, h2⟩ := areEx_all h
 have := exI_len (fun y hy => (h2 y hy).1)
 simp only [encX, List.length_cons]
 omega
theorem ok293 (l : List Ext) (hok : areEx l = true) {f0 : Fl} (h0 : inFl f0 = true) : fix Tb md 293 [R (row fExt l) f0] = some ⟨[R (row fI (encX l)) (.ow false), B true], [], none⟩ := by
 obtain ⟨hl, hw⟩ := areEx_all hok
 obtain ⟨et, het⟩ := nm (row fI (encX l))
 rw [← het]
 generalize hr : (⟨_, [], none⟩ : Ret) = r
 obtain ⟨ea, hea⟩ := nm (row fExt l)
 rw [← hea]
 obtain ⟨nl, hnl⟩ := nm ((l.length : Int))
 obtain ⟨e0, he0⟩ := nm (row fI [nl])
 have hen : encX l = nl :: l.flatMap exI := by rw [hnl]; rfl
 refine fix_fn2 (fn := ir293) tb_293 rfl rfl (by decide) rfl ?_; intro Q hQ; simp only [shutArgs, shutS, List.map_cons, List.map_nil, ir293, shut_in h0, List.head?_nil, reduceCtorEq, if_false, sExt, sHello, sAnswer, sEdit, sDeal, sBox, sDialed, sKnown]
 intro add sub mul arith eq ne lt le gt ge neg conv mn mx not beq len at' ln bd cut app allS isNil mks set o hP F ho
 have la := F.len_at hea
 have lna : len ea = nl := by rw [hnl]; exact la
 have la' : At nl l.length := hnl
 have c1 : o 271 [R ea (.sp 0 0)] = some ⟨[B true], [], none⟩ := by rw [ho, hea, ← hok]; exact ok271 _ (by omega) (fun y hy => by have := (hw y hy).1; omega) rfl
 cbv
 rw [c1]; cbv
 rw [show not true = false by rw [F.not]; rfl]; cbv
 rw [lna]
 refine loop_ind2 hP (σ := List Ext × List Ext × List (List V) × Int) (fun s => [(0, R ea .sh), (2, R [] .nl), (3, B false), (4, R s.2.2.1 (.ow false)), (5, I s.2.2.2)]) (fun s => At s.2.2.2 s.2.1.length ∧ l = s.2.1 ++ s.1 ∧ s.2.2.1 = row fI (nl :: s.2.1.flatMap exI)) (fun s => s.1.length) (l, [], [[.int .i64 nl]], 0) rfl ⟨rfl, rfl, rfl⟩ ?_
 intro c1 Q1 hc1 hQ1
 rintro ⟨suf, pre, eo, i⟩ ⟨hi, hl', hb⟩ ih
 simp only at hi hl' hb ih
 have hpre : pre.length ≤ 6 := by rw [hl'] at hl; simp at hl; omega
 have hfl : (pre.flatMap exI).length ≤ 36 := by have := exI_len (l := pre) (fun y hy => (hw y (by rw [hl']; simp [hy])).1); omega
 cbv
 cases suf with
 | nil =>
  rw [F.lt_f hi la (by simp [hl'])]; cbv
  rw [hQ1]; cbv
  rw [hQ]; cbv
  rw [← hr, het, hb, hen, hl', List.append_nil]
 | cons x suf =>
  obtain ⟨ix, hix⟩ := nm (pre.length * 2)
  obtain ⟨e1, he1⟩ := nm (row fI x.body)
  obtain ⟨nb, hnb⟩ := nm ((x.body.length : Int))
  have hx := (hw x (by rw [hl']; simp)).1
  have hxi : exI x = x.tag :: nb :: x.body := by rw [hnb]; rfl
  have p0 : at' 2 ea i = some (ix, [.int .i64 x.tag, .row () e1]) := by rw [hix, he1]; exact F.get hi hea hl' (fun _ => rfl) (by decide)
  have l1 : len e1 = nb := by rw [hnb]; exact F.len_at he1
  obtain ⟨eo1, heo1⟩ := nm (row fI (nl :: pre.flatMap exI ++ [x.tag, nb]))
  obtain ⟨eo2, heo2⟩ := nm (row fI (nl :: (pre ++ [x]).flatMap exI))
  have q1 : app 1 eo [[.int .i64 x.tag], [.int .i64 nb]] = some eo1 := by
   have h := F.app' (f := fI) (k := 1) (e2 := [[.int .i64 x.tag], [.int .i64 nb]]) (l2 := [x.tag, nb]) hb rfl (fun _ => rfl) (by simp only [List.length_cons, List.length_append, List.length_nil]; omega)
   rw [h, heo1]
  have q2 : app 1 eo1 e1 = some eo2 := by
   have h := F.app' (f := fI) (k := 1) heo1 he1 (fun _ => rfl) (by simp only [List.length_cons, List.length_append, List.length_nil]; omega)
   rw [h, heo2, List.flatMap_append, List.flatMap_cons, hxi]; simp
  have q3 : allS [[.int .i64 x.tag], [.int .i64 nb]] = true := by rw [F.allS]; rfl
  have q4 : allS e1 = true := F.scal he1 (fun _ => rfl)
  rw [F.lt_t hi la (by simp [hl'])]; cbv
  rw [p0]; cbv
  repeat' (first | (rw [p0]; cbv) | (rw [l1]; cbv) | (rw [q1]; cbv) | (rw [q2]; cbv) | (rw [q3]; cbv) | (rw [q4]; cbv))
  refine ih (suf, pre ++ [x], eo2, add .i64 i 1) ⟨at_len (F.inc hi (by omega)) (by simp), by simp [hl'], heo2⟩ (by simp)
def ansB (a : Answer) : List Int := if isAns a.version a.exts = true then a.version :: encX a.exts else []
theorem ansB_len (a : Answer) : (ansB a).length ≤ 38 := by
 unfold ansB
 split
 ·rename_i h
  have hok : areEx a.exts = true := by unfold isAns at h; simp at h; exact h.2
  have := encX_len hok
  rw [List.length_cons]; omega
 ·simp
def resv (t : Int) : Bool := inR t 0 255 && decide (Int.tmod t 16 = 10)
def okT (h : Hello) (e : Ext) : Bool := !(decide (extOf h.exts e.tag < 0) || resv e.tag)
def fitsV (h : Hello) (a : Answer) : Bool := a.exts.all (okT h) && isHel h && isAns a.version a.exts && hasI h.versions a.version
def helB (h : Hello) : List Int := if isHel h then (h.versions.length : Int) :: h.versions ++ encX h.exts else []
theorem isHel_ex {h : Hello} (q : isHel h = true) : areEx h.exts = true := by unfold isHel at q; simp only [Bool.and_eq_true] at q; exact q.2
theorem helB_len (h : Hello) : (helB h).length ≤ h.versions.length + 39 := by
 unfold helB
 split
 ·rename_i q
  have := encX_len (isHel_ex q)
  simp; omega
 ·simp
theorem asc_len : ∀ (l : List Int) (d : Int), d ≤ 9 → l.Pairwise (· < ·) → (∀ x ∈ l, d < x ∧ x ≤ 9) → (l.length : Int) ≤ 9 - d
 | [], d, h, _, _ => by simp; omega
 | x :: l, d, h, h1, h2 => by
  have hx := h2 x (by simp)
  have := asc_len l x hx.2 (List.pairwise_cons.1 h1).2 (fun y hy => ⟨(List.pairwise_cons.1 h1).1 y hy, (h2 y (by simp [hy])).2⟩)
  simp only [List.length_cons, Int.natCast_add, Int.natCast_one]; omega
theorem isHel_vl {h : Hello} (q : isHel h = true) : h.versions.length ≤ 9 := by
 unfold isHel at q; simp only [Bool.and_eq_true] at q
 obtain ⟨h1, h2⟩ := areVer_asc q.1
 have := asc_len h.versions 0 (by decide) h1 (fun x hx => by have := h2 x hx; omega)
 omega
theorem helB_small (h : Hello) : (helB h).length ≤ 48 := by
 cases q : isHel h with
 | true => have := isHel_vl q; have := helB_len h; omega
 | false => unfold helB; rw [q]; simp
theorem ok162 (h : Hello) (mh : h.Mid) {f0 f1 : Fl} (q0 : inFl f0 = true) (q1 : inFl f1 = true) : fix Tb md 162 [sHello (row fI h.versions) (row fExt h.exts) f0 f1] = some ⟨[R (row fI (helB h)) (.ow false)], [], none⟩ := by
 have mh' := mh
 unfold Hello.Mid at mh'
 have hvl := mh'.1
 have hxl := mh'.2.1
 have wh : ∀ y ∈ h.exts, y.body.length ≤ 1099511627776 := fun y hy => Nat.le_trans (show y.body.length ≤ 1073741824 from mh'.2.2 y hy) (by decide)
 have k1 := ok142 h (by omega) (by omega) wh (f0 := .sp 0 0) (f1 := .sp 0 1) rfl rfl
 cases hi : isHel h with
 | false =>
  rw [hi] at k1
  have hb : helB h = [] := by unfold helB; rw [hi]; rfl
  rw [hb]
  generalize hr : (⟨_, [], none⟩ : Ret) = r
  obtain ⟨dv, hdv⟩ := nm (row fI h.versions)
  obtain ⟨dx, hdx⟩ := nm (row fExt h.exts)
  rw [← hdv, ← hdx] at k1 ⊢
  refine fix_fn2 (fn := ir162) tb_162 rfl rfl (by decide) rfl ?_; intro Q hQ; simp only [shutArgs, shutS, List.map_cons, List.map_nil, ir162, shut_in q0, shut_in q1, List.head?_nil, reduceCtorEq, if_false, sExt, sHello, sAnswer, sEdit, sDeal, sBox, sDialed, sKnown]
  intro add sub mul arith eq ne lt le gt ge neg conv mn mx not beq len at' ln bd cut app allS isNil mks set o hP F ho
  rw [← ho] at k1
  cbv
  rw [k1]; cbv
  rw [show not false = true by rw [F.not]; rfl]; cbv
  rw [hQ]; cbv
  exact congrArg some hr
 | true =>
  rw [hi] at k1
  have hok := isHel_ex hi
  have hlen := encX_len hok
  have hb : helB h = (h.versions.length : Int) :: h.versions ++ encX h.exts := by unfold helB; rw [hi]; rfl
  rw [hb]
  obtain ⟨n, hn⟩ := nm ((h.versions.length : Int))
  obtain ⟨et, het⟩ := nm (row fI (n :: h.versions ++ encX h.exts))
  rw [← hn, ← het]
  generalize hr : (⟨_, [], none⟩ : Ret) = r
  obtain ⟨dv, hdv⟩ := nm (row fI h.versions)
  obtain ⟨dx, hdx⟩ := nm (row fExt h.exts)
  rw [← hdv, ← hdx] at k1 ⊢
  obtain ⟨ex, hex⟩ := nm (row fI (encX h.exts))
  refine fix_fn2 (fn := ir162) tb_162 rfl rfl (by decide) rfl ?_; intro Q hQ; simp only [shutArgs, shutS, List.map_cons, List.map_nil, ir162, shut_in q0, shut_in q1, List.head?_nil, reduceCtorEq, if_false, sExt, sHello, sAnswer, sEdit, sDeal, sBox, sDialed, sKnown]
  intro add sub mul arith eq ne lt le gt ge neg conv mn mx not beq len at' ln bd cut app allS isNil mks set o hP F ho
  rw [← ho] at k1
  have c2 : o 293 [R dx (.sp 0 0)] = some ⟨[R ex (.ow false), B true], [], none⟩ := by rw [ho, hdx, hex]; exact ok293 _ hok rfl
  have g1 : len dv = n := by rw [hn]; exact F.len_at hdv
  cbv
  rw [k1]; cbv
  rw [show not true = false by rw [F.not]; rfl]; cbv
  rw [c2]; cbv
  rw [g1]; cbv
  obtain ⟨e1, he1⟩ := nm (row fI (n :: h.versions))
  have p1 : app 1 [[.int .i64 n]] dv = some e1 := by rw [he1]; exact F.app' (f := fI) (k := 1) (e1 := [[.int .i64 n]]) (l1 := [n]) rfl hdv (fun _ => rfl) (by simp; omega)
  have p2 : app 1 e1 ex = some et := by rw [het]; exact F.app' (f := fI) (k := 1) he1 hex (fun _ => rfl) (by simp; omega)
  have p3 : allS dv = true := F.scal hdv (fun _ => rfl)
  have p4 : allS ex = true := F.scal hex (fun _ => rfl)
  rw [p3]; cbv
  rw [p1]; cbv
  rw [p4]; cbv
  rw [p2]; cbv
  rw [hQ]; cbv
  exact congrArg some hr
def notRes (e : Ext) : Bool := !resv e.tag
def caOk (vs : List Int) (h : Hello) : Bool := isHel h && !decide (bestC vs h.versions = 0)
def caX (tg : List Int) (l : List Ext) : List Ext := sel notRes idE (sel (tagIn tg) idE l)
def caV (vs tg : List Int) (h : Hello) : Answer := if caOk vs h then ⟨bestC vs h.versions, caX tg h.exts⟩ else ⟨0, []⟩
theorem caV_mid {vs tg : List Int} {h : Hello} (m : h.Mid) : (caV vs tg h).Mid := by
 unfold caV
 split
 ·unfold Hello.Mid at m
  refine ⟨Nat.le_trans sel_len (Nat.le_trans sel_len m.2.1), fun y hy => m.2.2 y ?_⟩
  simp only [caX, sel_idE] at hy
  exact (List.mem_filter.1 (List.mem_filter.1 hy).1).1
 ·exact ⟨by simp, by simp⟩
end Go.Vm
