/- What the functions answer. -/
import Derived.Test.YtokkeikhghanpaaGATab
import Derived.Test.YtokkeikhghanpaaGAFA
import Derived.Test.YtokkeikhghanpaaGAFB
import Derived.Test.YtokkeikhghanpaaGAFC
import Derived.Test.YtokkeikhghanpaaGAFD
import Derived.Test.YtokkeikhghanpaaGAFG
import Derived.Test.YtokkeikhghanpaaGAFI
import Derived.Test.YtokkeikhghanpaaGAFJ
import Derived.Test.YtokkeikhghanpaaGAFK
import Derived.Test.YtokkeikhghanpaaGAFL
import Derived.Test.YtokkeikhghanpaaGAFM
set_option maxHeartbeats 4000000
set_option maxRecDepth 10000
set_option linter.unusedVariables false
set_option linter.unusedSimpArgs false
namespace Go.Vm
def deadV (path : List Box) (v : Int) : Bool := !ppOk path ⟨[v], []⟩
def lvs (path : List Box) (versions : List Int) : List Int := if areVer versions then sel (deadV path) idI versions else []
theorem lvs_len {path : List Box} {versions : List Int} : (lvs path versions).length ≤ versions.length := by
 unfold lvs; split
 ·exact sel_len
 ·simp
theorem ver_mem : ∀ (suf pre : List Int), verGo pre suf = true → ∀ x ∈ suf, inR x 1 9 = true
 | [], _, _ => by simp
 | y :: suf, pre, h => by
  unfold verGo at h
  simp only [Bool.and_eq_true] at h
  intro x hx
  rcases List.mem_cons.1 hx with rfl | hx
  ·exact h.1.1
  ·exact ver_mem suf _ h.2 x hx
theorem iop_one {path : List Box} {versions : List Int} (h : areVer versions = true) {x : Int} (hx : x ∈ versions) : iop path [x] = ppOk path ⟨[x], []⟩ := by
 unfold areVer at h
 simp only [Bool.and_eq_true] at h
 have h1 := ver_mem _ _ h.1 x hx
 unfold iop areVer verGo verGo
 simp [h1]
theorem ok170 (path : List Box) (versions : List Int) (pl : path.length ≤ 1073741824) (pm : ∀ y ∈ path, y.Mid) (hv : versions.length ≤ 1073741824) {f0 f1 : Fl} (q0 : inFl f0 = true) (q1 : inFl f1 = true) : fix Tb md 170 [R (row fBox path) f0, R (row fI versions) f1] = some ⟨[R (row fI (lvs path versions)) (.ow false)], [], none⟩ := by
 obtain ⟨u, hu⟩ := nm (areVer versions)
 obtain ⟨l, hl0⟩ := nm (versions)
 obtain ⟨et, het⟩ := nm (row fI (lvs path versions))
 rw [← het]
 have hT : et = row fI (if u = true then sel (deadV path) idI l else []) := by rw [het, hu, hl0]; rfl
 clear het
 generalize hr : (⟨_, [], none⟩ : Ret) = r
 obtain ⟨ep, hep⟩ := nm (row fBox path)
 obtain ⟨ev, hev⟩ := nm (row fI versions)
 rw [← hep, ← hev]
 rw [← hl0] at hv hev hu
 have mem : ∀ x ∈ l, u = true → iop path [x] = ppOk path ⟨[x], []⟩ := fun x hx h => iop_one (by rw [← hu]; exact h) hx
 refine fix_fn2 (fn := ir170) tb_170 rfl rfl (by decide) rfl ?_; intro Q hQ; simp only [shutArgs, shutS, List.map_cons, List.map_nil, ir170, shut_in q0, shut_in q1, List.head?_nil, reduceCtorEq, if_false, sExt, sHello, sAnswer, sEdit, sDeal, sBox, sDialed, sKnown]
 intro add sub mul arith eq ne lt le gt ge neg conv mn mx not beq len at' ln bd cut app allS isNil mks set o hP F ho
 have lv := F.len_at hev
 have c1 : o 257 [R ev (.sp 0 0)] = some ⟨[B u], [], none⟩ := by rw [ho, hu, hev]; exact ok257 _ (by omega) rfl
 cbv
 refine loop_ind2 hP (σ := List Int × List Int × List (List V) × Int) (fun s => [(0, R ep .sh), (1, R ev .sh), (4, R [] .nl), (5, R s.2.2.1 (.ow false)), (6, I s.2.2.2)]) (fun s => At s.2.2.2 s.2.1.length ∧ l = s.2.1 ++ s.1 ∧ s.2.2.1 = row fI (sel (deadV path) idI s.2.1) ∧ (s.2.1 ≠ [] → u = true)) (fun s => s.1.length) (l, [], [], 0) rfl ⟨rfl, rfl, rfl, by simp⟩ ?_
 intro c9 Q1 hc9 hQ1
 rintro ⟨suf, pre, eo, i⟩ ⟨hi, hl', hb, hu1⟩ ih
 simp only at hi hl' hb hu1 ih
 cbv
 cases suf with
 | nil =>
  have hpp : l = pre := by rw [hl', List.append_nil]
  rw [F.lt_f hi lv (by simp [hl'])]; cbv
  rw [hQ1]; cbv
  rw [hQ]; cbv
  rw [← hr, hT, hb, hpp]
  by_cases hn : pre = []
  ·rw [hn]; split <;> rfl
  ·rw [if_pos (hu1 hn)]
 | cons x suf =>
  rw [F.lt_t hi lv (by simp [hl'])]; cbv
  rw [c1]; cbv
  refine both (fun d1 => ?_) (fun d1 => ?_) <;> rw [d1] <;> cbv
  ·have hx : x ∈ l := by rw [hl']; simp
   obtain ⟨w, hw⟩ := nm (ppOk path ⟨[x], []⟩)
   obtain ⟨n, hn⟩ := nm (pre.length)
   obtain ⟨n1, hn1⟩ := nm (pre.length + 1)
   obtain ⟨e1, he1⟩ := nm (row fI [x])
   have hpl : pre.length ≤ 1073741824 := by rw [hl'] at hv; simp at hv; omega
   have hi1 : At (add .i64 i 1) n1 := by rw [hn1]; exact F.inc hi (by omega)
   have b1 : bd (ln ev) (add .i64 i 1) = some n1 := by rw [F.ln' hev]; exact F.bd' hi1 (by rw [hl', hn1]; simp)
   have b2 : bd n1 i = some n := by rw [hn]; exact F.bd' hi (by omega)
   have b3 : cut 1 ev n1 n = some e1 := by
    rw [F.cut' hev (fun _ => rfl), he1, hl', hn, hn1]
    congr 2
    rw [List.drop_take, show pre.length + 1 - pre.length = 1 by omega, List.drop_left]; rfl
   have c2 : o 166 [R ep (.sp 0 0), R e1 (.sp 1 0)] = some ⟨[B w], [], none⟩ := by
    rw [ho, hw, ← mem x hx d1, hep, he1]; exact ok166 path [x] pl pm (by simp) rfl rfl
   obtain ⟨ix, hix⟩ := nm (pre.length * 1)
   have p0 : at' 1 ev i = some (ix, [.int .i64 x]) := by rw [hix]; exact F.get hi hev hl' (fun _ => rfl) (by decide)
   have hi' : At (add .i64 i 1) (pre ++ [x]).length := at_len (F.inc hi (by omega)) (by simp)
   have hl2 : l = (pre ++ [x]) ++ suf := by rw [hl']; simp
   have hs : (sel (deadV path) idI pre).length ≤ pre.length := sel_len
   have hPx : deadV path x = !w := by rw [hw]; rfl
   rw [b1]; cbv
   rw [b2]; cbv
   rw [b3]; cbv
   rw [c2]; cbv
   refine both (fun d2 => ?_) (fun d2 => ?_) <;> rw [d2] <;> cbv
   ·rw [p0]; cbv
    rw [show allS [[.int .i64 x]] = true by rw [F.allS]; rfl]; cbv
    obtain ⟨eo', heo'⟩ := nm (row fI (sel (deadV path) idI pre ++ [idI x]))
    rw [show app 1 eo [[.int .i64 x]] = some eo' by rw [heo']; exact F.push (k := 1) (f := fI) (l := sel (deadV path) idI pre) (x := idI x) hb (fun _ => rfl) rfl (by omega)]; cbv
    refine ih (suf, pre ++ [x], eo', add .i64 i 1) ⟨hi', hl2, ?_, fun _ => d1⟩ (by simp)
    simp only
    rw [sel_t (by rw [hPx, F.not_t d2]; rfl)]; exact heo'
   ·refine ih (suf, pre ++ [x], eo, add .i64 i 1) ⟨hi', hl2, ?_, fun _ => d1⟩ (by simp)
    simp only
    rw [sel_f (by rw [hPx, F.not_f d2]; rfl)]; exact hb
  ·rw [hQ1]; cbv
   rw [hQ]; cbv
   rw [← hr, hT, hb, d1]
   by_cases hn : pre = []
   ·rw [hn]; rfl
   ·rw [hu1 hn] at d1; cases d1
def fbL (h : Hello) (path : List Box) : List Int := lvs path h.versions
def fbT (h : Hello) (path : List Box) : List Int := ltags path (sel (notIn (fbL h path)) idI h.versions) h.exts
def fbV (h : Hello) (path : List Box) : Hello := partV h (fbL h path) (fbT h path)
def fbOk (h : Hello) (path : List Box) : Bool := partOk h (fbL h path)
theorem fbV_mid {h : Hello} {path : List Box} (m : h.Mid) : (fbV h path).Mid := partV_mid m
theorem fb_no {h : Hello} {path : List Box} (hi : isHel h = false) : fbOk h path = false ∧ fbV h path = ⟨[], []⟩ := by
 have h1 : fbOk h path = false := by unfold fbOk partOk; rw [hi]; rfl
 refine ⟨h1, ?_⟩
 unfold fbV partV
 rw [show partOk h (fbL h path) = false from h1]; rfl
inductive HF : List Int → List Ext → Fl → Fl → Prop
 | oo (V : List Int) (X : List Ext) : HF V X (.ow false) (.ow false)
 | on (V : List Int) : HF V [] (.ow false) .nl
 | nn : HF [] [] .nl .nl
theorem HF.three {vs : List Int} {xs : List Ext} {P : List (List V) → List (List V) → Fl → Fl → Prop} (h : ∃ f g, HF vs xs f g ∧ P (row fI vs) (row fExt xs) f g) : P (row fI vs) (row fExt xs) (.ow false) (.ow false) ∨ (xs = [] ∧ P (row fI vs) [] (.ow false) .nl) ∨ (vs = [] ∧ xs = [] ∧ P [] [] .nl .nl) := by
 obtain ⟨f, g, h1, h2⟩ := h
 cases h1 with
 | oo => exact .inl h2
 | on => exact .inr (.inl ⟨rfl, h2⟩)
 | nn => exact .inr (.inr ⟨rfl, rfl, h2⟩)
theorem HF.of3 {vs : List Int} {xs : List Ext} {P : List (List V) → List (List V) → Fl → Fl → Prop} (h : P (row fI vs) (row fExt xs) (.ow false) (.ow false) ∨ (xs = [] ∧ P (row fI vs) [] (.ow false) .nl) ∨ (vs = [] ∧ xs = [] ∧ P [] [] .nl .nl)) : ∃ f g, HF vs xs f g ∧ P (row fI vs) (row fExt xs) f g := by
 rcases h with h | ⟨rfl, h⟩ | ⟨rfl, rfl, h⟩
 ·exact ⟨_, _, .oo _ _, h⟩
 ·exact ⟨_, _, .on _, h⟩
 ·exact ⟨_, _, .nn, h⟩
theorem HF.of2 {vs : List Int} {xs : List Ext} {P : List (List V) → List (List V) → Fl → Fl → Prop} (h : P (row fI vs) (row fExt xs) (.ow false) (.ow false) ∨ (vs = [] ∧ xs = [] ∧ P [] [] .nl .nl)) : ∃ f g, HF vs xs f g ∧ P (row fI vs) (row fExt xs) f g := by
 rcases h with h | ⟨rfl, rfl, h⟩
 ·exact ⟨_, _, .oo _ _, h⟩
 ·exact ⟨_, _, .nn, h⟩
theorem HF.fl {vs : List Int} {xs : List Ext} {f g : Fl} (h : HF vs xs f g) : (f = .ow false ∧ g = .ow false) ∨ (f = .ow false ∧ g = .nl) ∨ (f = .nl ∧ g = .nl) := by cases h <;> simp
def inA (f : Fl) (i c : Nat) : Fl := match f with | .ow _ => .sp i c | f => f
theorem HF.inl {vs : List Int} {xs : List Ext} {f g : Fl} (h : HF vs xs f g) (i c : Nat) : inFl (inA f i c) = true := by cases h <;> rfl
theorem HF.inr {vs : List Int} {xs : List Ext} {f g : Fl} (h : HF vs xs f g) (i c : Nat) : inFl (inA g i c) = true := by cases h <;> rfl
theorem ok205 (h : Hello) (path : List Box) (mh : h.Mid) (pl : path.length ≤ 1073741824) (pm : ∀ y ∈ path, y.Mid) {f0 f1 f2 : Fl} (q0 : inFl f0 = true) (q1 : inFl f1 = true) (q2 : inFl f2 = true) :
  ∃ f g, HF (fbV h path).versions (fbV h path).exts f g ∧ fix Tb md 205 [sHello (row fI h.versions) (row fExt h.exts) f0 f1, R (row fBox path) f2] = some ⟨[sHello (row fI (fbV h path).versions) (row fExt (fbV h path).exts) f g, B (fbOk h path)], [], none⟩ := by
 have mh' := mh
 unfold Hello.Mid at mh'
 have hvl := mh'.1
 have hxl := mh'.2.1
 have wh : ∀ y ∈ h.exts, y.body.length ≤ 1099511627776 := fun y hy => Nat.le_trans (show y.body.length ≤ 1073741824 from mh'.2.2 y hy) (by decide)
 have wm : ∀ y ∈ h.exts, y.body.length ≤ 1073741824 := fun y hy => mh'.2.2 y hy
 cases hi : isHel h with
 | false =>
  rw [(fb_no hi).1, (fb_no hi).2]
  refine ⟨_, _, .nn, ?_⟩
  generalize hr : (⟨_, [], none⟩ : Ret) = r
  obtain ⟨dv, hdv⟩ := nm (row fI h.versions)
  obtain ⟨dx, hdx⟩ := nm (row fExt h.exts)
  obtain ⟨ep, hep⟩ := nm (row fBox path)
  rw [← hdv, ← hdx, ← hep]
  refine fix_fn2 (fn := ir205) tb_205 rfl rfl (by decide) rfl ?_; intro Q hQ; simp only [shutArgs, shutS, List.map_cons, List.map_nil, ir205, shut_in q0, shut_in q1, shut_in q2, List.head?_nil, reduceCtorEq, if_false, sExt, sHello, sAnswer, sEdit, sDeal, sBox, sDialed, sKnown]
  intro add sub mul arith eq ne lt le gt ge neg conv mn mx not beq len at' ln bd cut app allS isNil mks set o hP F ho
  have c1 : o 142 [sHello dv dx (.sp 0 0) (.sp 0 1)] = some ⟨[B false], [], none⟩ := by rw [ho, ← hi, hdv, hdx]; exact ok142 _ (by omega) (by omega) wh rfl rfl
  cbv
  rw [c1]; cbv
  rw [show not false = true by rw [F.not]; rfl]; cbv
  rw [hQ]; cbv
  exact congrArg some hr
 | true =>
  have a1 : (fbL h path).length ≤ 1073741824 := Nat.le_trans lvs_len hvl
  have a2 : (sel (notIn (fbL h path)) idI h.versions).length ≤ 1073741824 := Nat.le_trans sel_len hvl
  have a3 : (fbT h path).length ≤ 1073741824 := Nat.le_trans ltags_len hxl
  have hk := HF.of3 (P := fun V X f g => fix Tb md 164 [sHello (row fI h.versions) (row fExt h.exts) (.sp 0 0) (.sp 0 1), R (row fI (fbL h path)) (.sp 1 0), R (row fI (fbT h path)) (.sp 2 0)] = some ⟨[sHello V X f g, B (fbOk h path)], [], none⟩) (ok164 h (fbL h path) (fbT h path) mh a1 a3 (f0 := .sp 0 0) (f1 := .sp 0 1) (f2 := .sp 1 0) (f3 := .sp 2 0) rfl rfl rfl rfl)
  obtain ⟨f, g, hf, hk⟩ := hk
  refine ⟨f, g, hf, ?_⟩
  have k1 := ok170 path h.versions pl pm hvl (f0 := .sp 0 0) (f1 := .sp 1 0) rfl rfl
  have k2 := ok292 h.versions (fbL h path) hvl a1 (f0 := .sp 0 0) (f1 := .sp 1 0) rfl rfl
  have k3 := ok198 path (sel (notIn (fbL h path)) idI h.versions) h.exts pl pm a2 hxl wm (f0 := .sp 0 0) (f1 := .sp 1 0) (f2 := .sp 2 0) rfl rfl rfl
  rw [show lvs path h.versions = fbL h path from rfl] at k1
  rw [show ltags path (sel (notIn (fbL h path)) idI h.versions) h.exts = fbT h path from rfl] at k3
  obtain ⟨w, hw⟩ := nm (fbOk h path)
  rw [← hw] at hk ⊢
  obtain ⟨eV, heV⟩ := nm (row fI (fbV h path).versions)
  obtain ⟨eX, heX⟩ := nm (row fExt (fbV h path).exts)
  rw [show row fI (partV h (fbL h path) (fbT h path)).versions = eV from heV.symm, show row fExt (partV h (fbL h path) (fbT h path)).exts = eX from heX.symm] at hk
  rw [← heV, ← heX]
  obtain ⟨dv, hdv⟩ := nm (row fI h.versions)
  obtain ⟨dx, hdx⟩ := nm (row fExt h.exts)
  obtain ⟨ep, hep⟩ := nm (row fBox path)
  obtain ⟨el, hel⟩ := nm (row fI (fbL h path))
  obtain ⟨ew, hew⟩ := nm (row fI (sel (notIn (fbL h path)) idI h.versions))
  obtain ⟨et, het⟩ := nm (row fI (fbT h path))
  rw [← hdv, ← hdx, ← hel, ← het] at hk
  rw [← hdv, ← hep, ← hel] at k1
  rw [← hdv, ← hel, ← hew] at k2
  rw [← hep, ← hew, ← hdx, ← het] at k3
  rw [← hdv, ← hdx, ← hep]
  replace hf := HF.fl hf
  rcases hf with ⟨rfl, rfl⟩ | ⟨rfl, rfl⟩ | ⟨rfl, rfl⟩
  all_goals
   generalize hr : (⟨_, [], none⟩ : Ret) = r
   refine fix_fn2 (fn := ir205) tb_205 rfl rfl (by decide) rfl ?_; intro Q hQ; simp only [shutArgs, shutS, List.map_cons, List.map_nil, ir205, shut_in q0, shut_in q1, shut_in q2, List.head?_nil, reduceCtorEq, if_false, sExt, sHello, sAnswer, sEdit, sDeal, sBox, sDialed, sKnown]
   intro add sub mul arith eq ne lt le gt ge neg conv mn mx not beq len at' ln bd cut app allS isNil mks set o hP F ho
   have c1 : o 142 [sHello dv dx (.sp 0 0) (.sp 0 1)] = some ⟨[B true], [], none⟩ := by rw [ho, ← hi, hdv, hdx]; exact ok142 _ (by omega) (by omega) wh rfl rfl
   have c2 : o 170 [R ep (.sp 0 0), R dv (.sp 1 0)] = some ⟨[R el (.ow false)], [], none⟩ := by rw [ho]; exact k1
   have c3 : o 292 [R dv (.sp 0 0), R el (.sp 1 0)] = some ⟨[R ew (.ow false)], [], none⟩ := by rw [ho]; exact k2
   have c4 : o 198 [R ep (.sp 0 0), R ew (.sp 1 0), R dx (.sp 2 0)] = some ⟨[R et (.ow false)], [], none⟩ := by rw [ho]; exact k3
   have c5 := hk
   rw [← ho] at c5
   cbv
   rw [c1]; cbv
   rw [show not true = false by rw [F.not]; rfl]; cbv
   rw [c2]; cbv
   rw [c3]; cbv
   rw [c4]; cbv
   rw [c5]; cbv
   rw [hQ]; cbv
   exact congrArg some hr
theorem ok205t (h : Hello) (path : List Box) (mh : h.Mid) (pl : path.length ≤ 1073741824) (pm : ∀ y ∈ path, y.Mid) {f0 f1 f2 : Fl} (q0 : inFl f0 = true) (q1 : inFl f1 = true) (q2 : inFl f2 = true) :
  fix Tb md 205 [sHello (row fI h.versions) (row fExt h.exts) f0 f1, R (row fBox path) f2] = some ⟨[sHello (row fI (fbV h path).versions) (row fExt (fbV h path).exts) (.ow false) (.ow false), B (fbOk h path)], [], none⟩ ∨
  ((fbV h path).exts = [] ∧ fix Tb md 205 [sHello (row fI h.versions) (row fExt h.exts) f0 f1, R (row fBox path) f2] = some ⟨[sHello (row fI (fbV h path).versions) [] (.ow false) .nl, B (fbOk h path)], [], none⟩) ∨
  ((fbV h path).versions = [] ∧ (fbV h path).exts = [] ∧ fix Tb md 205 [sHello (row fI h.versions) (row fExt h.exts) f0 f1, R (row fBox path) f2] = some ⟨[sHello [] [] .nl .nl, B (fbOk h path)], [], none⟩) :=
 HF.three (P := fun V X f g => fix Tb md 205 [sHello (row fI h.versions) (row fExt h.exts) f0 f1, R (row fBox path) f2] = some ⟨[sHello V X f g, B (fbOk h path)], [], none⟩) (ok205 h path mh pl pm q0 q1 q2)
def hfC (h : Hello) (path : List Box) : Bool := fbOk h path && pw (fbV h path) path
def hfOk (h : Hello) (path : List Box) : Bool := isHel h && (pw h path || hfC h path)
def hfN (h : Hello) (path : List Box) : Int := if isHel h then (if pw h path then 1 else 2) else 0
def hfV (h : Hello) (path : List Box) : Hello := if isHel h then (if pw h path then h else if hfC h path then fbV h path else ⟨[], []⟩) else ⟨[], []⟩
theorem hfV_mid {h : Hello} {path : List Box} (m : h.Mid) : (hfV h path).Mid := by
 unfold hfV
 split
 ·split
  ·exact m
  ·split
   ·exact fbV_mid m
   ·exact ⟨by simp, by simp, by simp⟩
 ·exact ⟨by simp, by simp, by simp⟩
theorem hf_a {h : Hello} {path : List Box} (hi : isHel h = false) : hfOk h path = false ∧ hfN h path = 0 ∧ hfV h path = ⟨[], []⟩ := by
 unfold hfOk hfN hfV; rw [hi]; exact ⟨rfl, rfl, rfl⟩
theorem hf_b {h : Hello} {path : List Box} (hi : isHel h = true) (hp : pw h path = true) : hfOk h path = true ∧ hfN h path = 1 ∧ hfV h path = h := by
 unfold hfOk hfN hfV; rw [hi, hp]; exact ⟨rfl, rfl, rfl⟩
theorem hf_c {h : Hello} {path : List Box} (hi : isHel h = true) (hp : pw h path = false) (hc : hfC h path = false) : hfOk h path = false ∧ hfN h path = 2 ∧ hfV h path = ⟨[], []⟩ := by
 unfold hfOk hfN hfV; rw [hi, hp, hc]; exact ⟨rfl, rfl, rfl⟩
theorem hf_d {h : Hello} {path : List Box} (hi : isHel h = true) (hp : pw h path = false) (hc : hfC h path = true) : hfOk h path = true ∧ hfN h path = 2 ∧ hfV h path = fbV h path := by
 unfold hfOk hfN hfV; rw [hi, hp, hc]; exact ⟨rfl, rfl, rfl⟩
theorem ok208 (h : Hello) (path : List Box) (mh : h.Mid) (pl : path.length ≤ 1073741824) (pm : ∀ y ∈ path, y.Mid) {f0 f1 f2 : Fl} (q0 : inFl f0 = true) (q1 : inFl f1 = true) (q2 : inFl f2 = true) :
  ∃ f g, HF (hfV h path).versions (hfV h path).exts f g ∧ fix Tb md 208 [sHello (row fI h.versions) (row fExt h.exts) f0 f1, R (row fBox path) f2] = some ⟨[sHello (row fI (hfV h path).versions) (row fExt (hfV h path).exts) f g, I (hfN h path), B (hfOk h path)], [], none⟩ := by
 have mh' := mh
 unfold Hello.Mid at mh'
 have hvl := mh'.1
 have hxl := mh'.2.1
 have wh : ∀ y ∈ h.exts, y.body.length ≤ 1099511627776 := fun y hy => Nat.le_trans (show y.body.length ≤ 1073741824 from mh'.2.2 y hy) (by decide)
 have k1 := ok142 h (by omega) (by omega) wh (f0 := .sp 0 0) (f1 := .sp 0 1) rfl rfl
 have k2 := ok192 h path mh pl pm (f0 := .sp 0 0) (f1 := .sp 0 1) (f2 := .sp 1 0) rfl rfl rfl
 have k3 := ok279 h mh (f0 := .sp 0 0) (f1 := .sp 0 1) rfl rfl
 obtain ⟨f, g, hf, k4⟩ := ok205 h path mh pl pm (f0 := .sp 0 0) (f1 := .sp 0 1) (f2 := .sp 1 0) rfl rfl rfl
 have k5 := fun (f0 f1 : Fl) (q0 : inFl f0 = true) (q1 : inFl f1 = true) => ok192 (fbV h path) path (fbV_mid mh) pl pm (f0 := f0) (f1 := f1) (f2 := .sp 1 0) q0 q1 rfl
 cases hi : isHel h with
 | false =>
  rw [(hf_a (path := path) hi).1, (hf_a (path := path) hi).2.1, (hf_a (path := path) hi).2.2]
  refine ⟨_, _, .nn, ?_⟩
  rw [hi] at k1
  clear k2 k3 k4 k5
  generalize hr : (⟨_, [], none⟩ : Ret) = r
  obtain ⟨dv, hdv⟩ := nm (row fI h.versions)
  obtain ⟨dx, hdx⟩ := nm (row fExt h.exts)
  obtain ⟨ep, hep⟩ := nm (row fBox path)
  rw [← hdv, ← hdx] at k1
  rw [← hdv, ← hdx, ← hep]
  refine fix_fn2 (fn := ir208) tb_208 rfl rfl (by decide) rfl ?_; intro Q hQ; simp only [shutArgs, shutS, List.map_cons, List.map_nil, ir208, shut_in q0, shut_in q1, shut_in q2, List.head?_nil, reduceCtorEq, if_false, sExt, sHello, sAnswer, sEdit, sDeal, sBox, sDialed, sKnown]
  intro add sub mul arith eq ne lt le gt ge neg conv mn mx not beq len at' ln bd cut app allS isNil mks set o hP F ho
  rw [← ho] at k1
  cbv
  rw [k1]; cbv
  rw [show not false = true by rw [F.not]; rfl]; cbv
  rw [hQ]; cbv
  exact congrArg some hr
 | true =>
  rw [hi] at k1
  cases hp : pw h path with
  | true =>
   rw [(hf_b hi hp).1, (hf_b hi hp).2.1, (hf_b hi hp).2.2]
   refine ⟨_, _, .oo _ _, ?_⟩
   rw [hp] at k2
   clear k4 k5
   generalize hr : (⟨_, [], none⟩ : Ret) = r
   obtain ⟨dv, hdv⟩ := nm (row fI h.versions)
   obtain ⟨dx, hdx⟩ := nm (row fExt h.exts)
   obtain ⟨ep, hep⟩ := nm (row fBox path)
   rw [← hdv, ← hdx] at k1 k2 k3
   rw [← hep] at k2
   rw [← hdv, ← hdx, ← hep]
   rw [← hdv, ← hdx] at hr
   refine fix_fn2 (fn := ir208) tb_208 rfl rfl (by decide) rfl ?_; intro Q hQ; simp only [shutArgs, shutS, List.map_cons, List.map_nil, ir208, shut_in q0, shut_in q1, shut_in q2, List.head?_nil, reduceCtorEq, if_false, sExt, sHello, sAnswer, sEdit, sDeal, sBox, sDialed, sKnown]
   intro add sub mul arith eq ne lt le gt ge neg conv mn mx not beq len at' ln bd cut app allS isNil mks set o hP F ho
   rw [← ho] at k1 k2 k3
   cbv
   rw [k1]; cbv
   rw [show not true = false by rw [F.not]; rfl]; cbv
   rw [k2]; cbv
   rw [k3]; cbv
   rw [hQ]; cbv
   exact congrArg some hr
  | false =>
   rw [hp] at k2
   obtain ⟨w, hw⟩ := nm (fbOk h path)
   obtain ⟨v, hv⟩ := nm (pw (fbV h path) path)
   rw [← hw] at k4
   rw [← hv] at k5
   have hcv : hfC h path = (w && v) := by rw [hw, hv]; rfl
   obtain ⟨eV, heV⟩ := nm (row fI (fbV h path).versions)
   obtain ⟨eX, heX⟩ := nm (row fExt (fbV h path).exts)
   rw [← heV, ← heX] at k4 k5
   obtain ⟨dv, hdv⟩ := nm (row fI h.versions)
   obtain ⟨dx, hdx⟩ := nm (row fExt h.exts)
   obtain ⟨ep, hep⟩ := nm (row fBox path)
   rw [← hdv, ← hdx] at k1 k2 k3 k4
   rw [← hep] at k2 k4 k5
   have k6 := k5 (inA f 0 0) (inA g 0 1) (hf.inl 0 0) (hf.inr 0 1)
   have hf' := HF.fl hf
   cases hc : (w && v) with
   | false =>
    rw [hc] at hcv
    rw [(hf_c hi hp hcv).1, (hf_c hi hp hcv).2.1, (hf_c hi hp hcv).2.2]
    refine ⟨_, _, .nn, ?_⟩
    rw [← hdv, ← hdx, ← hep]
    rcases hf' with ⟨rfl, rfl⟩ | ⟨rfl, rfl⟩ | ⟨rfl, rfl⟩
    all_goals
     simp only [inA] at k6
     generalize hr : (⟨_, [], none⟩ : Ret) = r
     refine fix_fn2 (fn := ir208) tb_208 rfl rfl (by decide) rfl ?_; intro Q hQ; simp only [shutArgs, shutS, List.map_cons, List.map_nil, ir208, shut_in q0, shut_in q1, shut_in q2, List.head?_nil, reduceCtorEq, if_false, sExt, sHello, sAnswer, sEdit, sDeal, sBox, sDialed, sKnown]
     intro add sub mul arith eq ne lt le gt ge neg conv mn mx not beq len at' ln bd cut app allS isNil mks set o hP F ho
     rw [← ho] at k1 k2 k3 k4 k6
     cbv
     rw [k1]; cbv
     rw [show not true = false by rw [F.not]; rfl]; cbv
     rw [k2]; cbv
     rw [k4]; cbv
     refine both (fun d1 => ?_) (fun d1 => ?_) <;> rw [d1] <;> cbv
     ·rw [hQ]; cbv
      exact congrArg some hr
     rw [F.not_f d1, Bool.true_and] at hc
     rw [hc] at k6
     rw [k6]; cbv
     rw [show not false = true by rw [F.not]; rfl]; cbv
     rw [hQ]; cbv
     exact congrArg some hr
   | true =>
    rw [hc] at hcv
    rw [Bool.and_eq_true] at hc
    rw [(hf_d hi hp hcv).1, (hf_d hi hp hcv).2.1, (hf_d hi hp hcv).2.2]
    refine ⟨_, _, hf, ?_⟩
    rw [← heV, ← heX, ← hdv, ← hdx, ← hep]
    rw [hc.1] at k4
    rw [hc.2] at k6
    rcases hf' with ⟨rfl, rfl⟩ | ⟨rfl, rfl⟩ | ⟨rfl, rfl⟩
    all_goals
     simp only [inA] at k6
     generalize hr : (⟨_, [], none⟩ : Ret) = r
     refine fix_fn2 (fn := ir208) tb_208 rfl rfl (by decide) rfl ?_; intro Q hQ; simp only [shutArgs, shutS, List.map_cons, List.map_nil, ir208, shut_in q0, shut_in q1, shut_in q2, List.head?_nil, reduceCtorEq, if_false, sExt, sHello, sAnswer, sEdit, sDeal, sBox, sDialed, sKnown]
     intro add sub mul arith eq ne lt le gt ge neg conv mn mx not beq len at' ln bd cut app allS isNil mks set o hP F ho
     rw [← ho] at k1 k2 k3 k4 k6
     cbv
     rw [k1]; cbv
     rw [show not true = false by rw [F.not]; rfl]; cbv
     rw [k2]; cbv
     rw [k4]; cbv
     rw [show not true = false by rw [F.not]; rfl]; cbv
     rw [k6]; cbv
     rw [show not true = false by rw [F.not]; rfl]; cbv
     rw [hQ]; cbv
     exact congrArg some hr
theorem ok208t (h : Hello) (path : List Box) (mh : h.Mid) (pl : path.length ≤ 1073741824) (pm : ∀ y ∈ path, y.Mid) {f0 f1 f2 : Fl} (q0 : inFl f0 = true) (q1 : inFl f1 = true) (q2 : inFl f2 = true) :
  fix Tb md 208 [sHello (row fI h.versions) (row fExt h.exts) f0 f1, R (row fBox path) f2] = some ⟨[sHello (row fI (hfV h path).versions) (row fExt (hfV h path).exts) (.ow false) (.ow false), I (hfN h path), B (hfOk h path)], [], none⟩ ∨
  ((hfV h path).exts = [] ∧ fix Tb md 208 [sHello (row fI h.versions) (row fExt h.exts) f0 f1, R (row fBox path) f2] = some ⟨[sHello (row fI (hfV h path).versions) [] (.ow false) .nl, I (hfN h path), B (hfOk h path)], [], none⟩) ∨
  ((hfV h path).versions = [] ∧ (hfV h path).exts = [] ∧ fix Tb md 208 [sHello (row fI h.versions) (row fExt h.exts) f0 f1, R (row fBox path) f2] = some ⟨[sHello [] [] .nl .nl, I (hfN h path), B (hfOk h path)], [], none⟩) :=
 HF.three (P := fun V X f g => fix Tb md 208 [sHello (row fI h.versions) (row fExt h.exts) f0 f1, R (row fBox path) f2] = some ⟨[sHello V X f g, I (hfN h path), B (hfOk h path)], [], none⟩) (ok208 h path mh pl pm q0 q1 q2)
def bdV (h : Hello) (path : List Box) (vs : List Int) : Int := if hfOk h path then bestC vs (hfV h path).versions else 0
theorem ok206 (h : Hello) (path : List Box) (vs : List Int) (mh : h.Mid) (pl : path.length ≤ 1073741824) (pm : ∀ y ∈ path, y.Mid) (hv : vs.length ≤ 1073741824) {f0 f1 f2 f3 : Fl} (q0 : inFl f0 = true) (q1 : inFl f1 = true) (q2 : inFl f2 = true) (q3 : inFl f3 = true) :
  fix Tb md 206 [sHello (row fI h.versions) (row fExt h.exts) f0 f1, R (row fBox path) f2, R (row fI vs) f3] = some ⟨[I (bdV h path vs)], [], none⟩ := by
 obtain ⟨f, g, hf, k1⟩ := ok208 h path mh pl pm (f0 := .sp 0 0) (f1 := .sp 0 1) (f2 := .sp 1 0) rfl rfl rfl
 have hVm := hfV_mid (path := path) mh
 unfold Hello.Mid at hVm
 have k2 := fun (f0 : Fl) (q0 : inFl f0 = true) => ok112 vs (hfV h path).versions hv hVm.1 (f0 := .sp 0 0) (f1 := f0) rfl q0
 obtain ⟨w, hw⟩ := nm (hfOk h path)
 obtain ⟨N, hN⟩ := nm (hfN h path)
 obtain ⟨m, hm⟩ := nm (bestC vs (hfV h path).versions)
 rw [show bdV h path vs = if w then m else 0 by rw [hw, hm]; rfl]
 rw [← hw, ← hN] at k1
 rw [← hm] at k2
 obtain ⟨eV, heV⟩ := nm (row fI (hfV h path).versions)
 obtain ⟨eX, heX⟩ := nm (row fExt (hfV h path).exts)
 obtain ⟨dv, hdv⟩ := nm (row fI h.versions)
 obtain ⟨dx, hdx⟩ := nm (row fExt h.exts)
 obtain ⟨ep, hep⟩ := nm (row fBox path)
 obtain ⟨ev, hev⟩ := nm (row fI vs)
 rw [← heV, ← heX, ← hdv, ← hdx, ← hep] at k1
 rw [← heV, ← hev] at k2
 rw [← hdv, ← hdx, ← hep, ← hev]
 have k6 := k2 (inA f 1 0) (hf.inl 1 0)
 replace hf := HF.fl hf
 rcases hf with ⟨rfl, rfl⟩ | ⟨rfl, rfl⟩ | ⟨rfl, rfl⟩
 all_goals
  simp only [inA] at k6
  generalize hr : (⟨_, [], none⟩ : Ret) = r
  refine fix_fn2 (fn := ir206) tb_206 rfl rfl (by decide) rfl ?_; intro Q hQ; simp only [shutArgs, shutS, List.map_cons, List.map_nil, ir206, shut_in q0, shut_in q1, shut_in q2, shut_in q3, List.head?_nil, reduceCtorEq, if_false, sExt, sHello, sAnswer, sEdit, sDeal, sBox, sDialed, sKnown]
  intro add sub mul arith eq ne lt le gt ge neg conv mn mx not beq len at' ln bd cut app allS isNil mks set o hP F ho
  rw [← ho] at k1 k6
  cbv
  rw [k1]; cbv
  refine both (fun d1 => ?_) (fun d1 => ?_) <;> rw [d1] <;> cbv
  ·rw [hQ]; cbv
   rw [← hr, F.not_t d1]; rfl
  rw [k6]; cbv
  rw [hQ]; cbv
  rw [← hr, F.not_f d1]; rfl
theorem ok305 (n : Int) (b : List Int) (hb : b.length ≤ 1099511627776) : fix Tb md 305 [I n, ⟨.val, [⟨.ptr () [.row () (row fI b)], .sh⟩]⟩] = some ⟨[B (!hasI b n)], [], none⟩ := by
 obtain ⟨v, hv⟩ := nm (hasI b n)
 rw [← hv]
 generalize hr : (⟨_, [], none⟩ : Ret) = r
 obtain ⟨eb, heb⟩ := nm (row fI b)
 rw [← heb]
 refine fix_fn2 (fn := ir305) tb_305 rfl rfl (by decide) rfl ?_; intro Q hQ; simp only [shutArgs, shutS, List.map_cons, List.map_nil, ir305, List.head?_nil, reduceCtorEq, if_false, sExt, sHello, sAnswer, sEdit, sDeal, sBox, sDialed, sKnown]
 intro add sub mul arith eq ne lt le gt ge neg conv mn mx not beq len at' ln bd cut app allS isNil mks set o hP F ho
 have c1 : o 302 [R eb (.sp 0 0), I n] = some ⟨[B v], [], none⟩ := by rw [ho, hv, heb]; exact ok302 _ _ hb rfl
 cbv
 rw [c1]; cbv
 rw [hQ]; cbv
 rw [← hr, F.not]
theorem ok165 (h : Hello) (lv tg : List Int) (mh : h.Mid) (a1 : lv.length ≤ 1073741824) (a2 : tg.length ≤ 1073741824) {f0 f1 f2 f3 : Fl} (q0 : inFl f0 = true) (q1 : inFl f1 = true) (q2 : inFl f2 = true) (q3 : inFl f3 = true) :
  fix Tb md 165 [sHello (row fI h.versions) (row fExt h.exts) f0 f1, R (row fI lv) f2, R (row fI tg) f3] = some ⟨[sHello (row fI (partV h lv tg).versions) (row fExt (partV h lv tg).exts) (.ow false) (.ow false), B (partOk h lv)], [], none⟩ ∨
  ((partV h lv tg).versions = [] ∧ (partV h lv tg).exts = [] ∧ fix Tb md 165 [sHello (row fI h.versions) (row fExt h.exts) f0 f1, R (row fI lv) f2, R (row fI tg) f3] = some ⟨[sHello [] [] .nl .nl, B (partOk h lv)], [], none⟩) := by
 have mh' := mh
 unfold Hello.Mid at mh'
 have hvl := mh'.1
 have hxl := mh'.2.1
 have wh : ∀ y ∈ h.exts, y.body.length ≤ 1099511627776 := fun y hy => Nat.le_trans (show y.body.length ≤ 1073741824 from mh'.2.2 y hy) (by decide)
 obtain ⟨W, hW⟩ := nm (sel (notIn lv) idI h.versions)
 obtain ⟨Z, hZ⟩ := nm (sel (notTagIn tg) idE h.exts)
 have hWl : W.length ≤ 1073741824 := by rw [hW]; exact Nat.le_trans sel_len hvl
 obtain ⟨u, hu⟩ := nm (isHel h)
 obtain ⟨z, hz⟩ := nm (decide (W.length = 0))
 suffices hmain : ∀ r, (u = true → z = false → (⟨[sHello (row fI W) (row fExt Z) (.ow false) (.ow false), B true], [], none⟩ : Ret) = r) → (u = false ∨ z = true → (⟨[sHello [] [] .nl .nl, B false], [], none⟩ : Ret) = r) → fix Tb md 165 [sHello (row fI h.versions) (row fExt h.exts) f0 f1, R (row fI lv) f2, R (row fI tg) f3] = some r by
  have ho : partOk h lv = (u && !z) := by rw [hu, hz, hW]; rfl
  cases hk : (u && !z) with
  | false =>
   rw [hk] at ho
   have hp : partV h lv tg = ⟨[], []⟩ := by rw [partV, ho]; rfl
   rw [hp, ho]
   refine .inr ⟨rfl, rfl, hmain _ (fun q1 q2 => ?_) (fun _ => rfl)⟩
   rw [q1, q2] at hk; exact Bool.noConfusion hk
  | true =>
   rw [hk] at ho
   have hp : partV h lv tg = ⟨W, Z⟩ := by rw [partV, ho, if_pos rfl, hW, hZ]
   rw [hp, ho]
   refine .inl (hmain _ (fun _ _ => rfl) (fun q => ?_))
   rcases q with q | q
   ·rw [q] at hk; exact Bool.noConfusion hk
   ·rw [q] at hk; simp at hk
 intro r rA rC
 obtain ⟨dv, hdv⟩ := nm (row fI h.versions)
 obtain ⟨dx, hdx⟩ := nm (row fExt h.exts)
 obtain ⟨el, hel⟩ := nm (row fI lv)
 obtain ⟨et, het⟩ := nm (row fI tg)
 rw [← hdv, ← hdx, ← hel, ← het]
 obtain ⟨ew, hew⟩ := nm (row fI W)
 obtain ⟨ez, hez⟩ := nm (row fExt Z)
 rw [← hew, ← hez] at rA
 refine fix_fn2 (fn := ir165) tb_165 rfl rfl (by decide) rfl ?_; intro Q hQ; simp only [shutArgs, shutS, List.map_cons, List.map_nil, ir165, shut_in q0, shut_in q1, shut_in q2, shut_in q3, List.head?_nil, reduceCtorEq, if_false, sExt, sHello, sAnswer, sEdit, sDeal, sBox, sDialed, sKnown]
 intro add sub mul arith eq ne lt le gt ge neg conv mn mx not beq len at' ln bd cut app allS isNil mks set o hP F ho
 have lw := F.len_at hew
 have c1 : o 287 [R dv (.sp 0 0), R el (.sp 1 0)] = some ⟨[R ew (.ow false)], [], none⟩ := by rw [ho, hew, hW, hdv, hel]; exact ok287 _ _ hvl a1 rfl rfl
 have c2 : o 113 [sHello dv dx (.sp 0 0) (.sp 0 1)] = some ⟨[B u], [], none⟩ := by rw [ho, hu, hdv, hdx]; exact ok113 _ (by omega) (by omega) wh rfl rfl
 have c3 : o 264 [R dx (.sp 0 0), ⟨.val, [⟨.fn 305 [.ptr () [.row () et]], .sh⟩]⟩] = some ⟨[R ez (.ow false)], [], none⟩ := by
  rw [ho, hez, hZ, hdx, het]
  exact ok264_1 305 rfl _ (fun n => !hasI tg n) h.exts hxl wh (fun x _ => ok305 x.tag tg (by omega)) rfl
 have g1 : eq (len ew) 0 = z := by rw [F.eq_n lw (k := 0) (m := 0) rfl, hz]
 cbv
 rw [c1]; cbv
 rw [c2]; cbv
 refine both (fun d1 => ?_) (fun d1 => ?_) <;> rw [d1] <;> cbv
 ·rw [hQ]; cbv
  exact congrArg some (rC (.inl (F.not_t d1)))
 rw [g1]; cbv
 refine both (fun d2 => ?_) (fun d2 => ?_) <;> rw [d2] <;> cbv
 ·rw [hQ]; cbv
  exact congrArg some (rC (.inr d2))
 rw [c3]; cbv
 rw [hQ]; cbv
 exact congrArg some (rA (F.not_f d1) d2)
theorem ok171 (path : List Box) (versions : List Int) (pl : path.length ≤ 1073741824) (pm : ∀ y ∈ path, y.Mid) (hv : versions.length ≤ 1073741824) {f0 f1 : Fl} (q0 : inFl f0 = true) (q1 : inFl f1 = true) : fix Tb md 171 [R (row fBox path) f0, R (row fI versions) f1] = some ⟨[R (row fI (lvs path versions)) (.ow false)], [], none⟩ := by
 obtain ⟨u, hu⟩ := nm (areVer versions)
 obtain ⟨l, hl0⟩ := nm (versions)
 obtain ⟨et, het⟩ := nm (row fI (lvs path versions))
 rw [← het]
 have hT : et = row fI (if u = true then sel (deadV path) idI l else []) := by rw [het, hu, hl0]; rfl
 clear het
 generalize hr : (⟨_, [], none⟩ : Ret) = r
 obtain ⟨ep, hep⟩ := nm (row fBox path)
 obtain ⟨ev, hev⟩ := nm (row fI versions)
 rw [← hep, ← hev]
 rw [← hl0] at hv hev hu
 refine fix_fn2 (fn := ir171) tb_171 rfl rfl (by decide) rfl ?_; intro Q hQ; simp only [shutArgs, shutS, List.map_cons, List.map_nil, ir171, shut_in q0, shut_in q1, List.head?_nil, reduceCtorEq, if_false, sExt, sHello, sAnswer, sEdit, sDeal, sBox, sDialed, sKnown]
 intro add sub mul arith eq ne lt le gt ge neg conv mn mx not beq len at' ln bd cut app allS isNil mks set o hP F ho
 have lv := F.len_at hev
 have c1 : o 255 [R ev (.sp 0 0)] = some ⟨[B u], [], none⟩ := by rw [ho, hu, hev]; exact ok255 _ (by omega) rfl
 cbv
 rw [c1]; cbv
 refine both (fun d1 => ?_) (fun d1 => ?_) <;> rw [d1] <;> cbv
 ·rw [hQ]; cbv
  rw [← hr, hT, F.not_t d1]; rfl
 have hT' : et = row fI (sel (deadV path) idI l) := by rw [hT, F.not_f d1, if_pos rfl]
 refine loop_ind2 hP (σ := List Int × List Int × List (List V) × Int × Option (Int × Bool × Option (List (List V) × List (List V)))) (fun s => match s.2.2.2.2 with
  | none => [(0, R ep .sh), (1, R ev .sh), (4, R [] .nl), (5, R s.2.2.1 (.ow false)), (15, R ev .sh), (16, I (len ev)), (17, I s.2.2.2.1)]
  | some (a, b, none) => [(0, R ep .sh), (1, R ev .sh), (4, R [] .nl), (5, R s.2.2.1 (.ow false)), (7, I a), (9, B b), (15, R ev .sh), (16, I (len ev)), (17, I s.2.2.2.1), (45, ⟨.box (), [⟨.row () [], .nl⟩, ⟨.row () [], .nl⟩]⟩)]
  | some (a, b, some (V, X)) => [(0, R ep .sh), (1, R ev .sh), (4, R [] .nl), (5, R s.2.2.1 (.ow false)), (7, I a), (9, B b), (15, R ev .sh), (16, I (len ev)), (17, I s.2.2.2.1), (45, ⟨.box (), [⟨.row () V, .ow false⟩, ⟨.row () X, .ow false⟩]⟩)])
  (fun s => At s.2.2.2.1 s.2.1.length ∧ l = s.2.1 ++ s.1 ∧ s.2.2.1 = row fI (sel (deadV path) idI s.2.1)) (fun s => s.1.length) (l, [], [], 0, none) rfl ⟨rfl, rfl, rfl⟩ ?_
 intro c9 Q1 hc9 hQ1
 rintro ⟨suf, pre, eo, i, j⟩ ⟨hi, hl', hb⟩ ih
 simp only at hi hl' hb ih
 rcases j with _ | ⟨ja, jb, _ | ⟨jV, jX⟩⟩
 all_goals
  cbv
  cases suf with
  | nil =>
   have hpp : l = pre := by rw [hl', List.append_nil]
   rw [F.lt_f hi lv (by simp [hl'])]; cbv
   rw [hQ1]; cbv
   rw [hQ]; cbv
   rw [← hr, hT', hb, hpp]
  | cons x suf =>
   have hk := ok182 path ⟨[x], []⟩ pl pm ⟨by simp, by simp, by simp⟩ (f0 := .sp 0 0) (f1 := .sp 1 0) (f2 := .nl) rfl rfl rfl
   obtain ⟨w, hw⟩ := nm (ppOk path ⟨[x], []⟩)
   obtain ⟨V1, hV1⟩ := nm (row fI (ppV path ⟨[x], []⟩).versions)
   obtain ⟨X1, hX1⟩ := nm (row fExt (ppV path ⟨[x], []⟩).exts)
   rw [← hep, ← hw, ← hV1, ← hX1] at hk
   have hk := hk
   obtain ⟨ix, hix⟩ := nm (pre.length * 1)
   have hpl : pre.length ≤ 1073741824 := by rw [hl'] at hv; simp at hv; omega
   have p0 : at' 1 ev i = some (ix, [.int .i64 x]) := by rw [hix]; exact F.get hi hev hl' (fun _ => rfl) (by decide)
   have hi' : At (add .i64 i 1) (pre ++ [x]).length := at_len (F.inc hi (by omega)) (by simp)
   have hl2 : l = (pre ++ [x]) ++ suf := by rw [hl']; simp
   have hs : (sel (deadV path) idI pre).length ≤ pre.length := sel_len
   have hPx : deadV path x = !w := by rw [hw]; rfl
   have c2 : o 77 [R [[.int .i64 x]] (.sp 0 0)] = some ⟨[sHello [[.int .i64 x]] [] (.ow false) .nl], [], none⟩ := by rw [ho]; exact ok77 [x] (by simp) rfl
   obtain ⟨eo', heo'⟩ := nm (row fI (sel (deadV path) idI pre ++ [idI x]))
   have p1 : app 1 eo [[.int .i64 x]] = some eo' := by rw [heo']; exact F.push (k := 1) (f := fI) (l := sel (deadV path) idI pre) (x := idI x) hb (fun _ => rfl) rfl (by omega)
   have p2 : allS [[.int .i64 x]] = true := by rw [F.allS]; rfl
   rw [F.lt_t hi lv (by simp [hl'])]; cbv
   rw [p0]; cbv
   rw [c2]; cbv
   rcases hk with hk | ⟨n1, n2, hk⟩
   ·have c3 : o 182 [R ep (.sp 0 0), sHello [[.int .i64 x]] [] (.sp 1 0) .nl] = some ⟨[sHello V1 X1 (.ow false) (.ow false), B w], [], none⟩ := by rw [ho]; exact hk
    rw [c3]; cbv
    refine both (fun d2 => ?_) (fun d2 => ?_) <;> rw [d2] <;> cbv
    ·rw [p2]; cbv
     rw [p1]; cbv
     refine ih (suf, pre ++ [x], eo', add .i64 i 1, some (x, w, some (V1, X1))) ⟨hi', hl2, ?_⟩ (by simp)
     simp only
     rw [sel_t (by rw [hPx, F.not_t d2]; rfl)]; exact heo'
    ·refine ih (suf, pre ++ [x], eo, add .i64 i 1, some (x, w, some (V1, X1))) ⟨hi', hl2, ?_⟩ (by simp)
     simp only
     rw [sel_f (by rw [hPx, F.not_f d2]; rfl)]; exact hb
   ·have c3 : o 182 [R ep (.sp 0 0), sHello [[.int .i64 x]] [] (.sp 1 0) .nl] = some ⟨[sHello [] [] .nl .nl, B w], [], none⟩ := by rw [ho]; exact hk
    rw [c3]; cbv
    refine both (fun d2 => ?_) (fun d2 => ?_) <;> rw [d2] <;> cbv
    ·rw [p2]; cbv
     rw [p1]; cbv
     refine ih (suf, pre ++ [x], eo', add .i64 i 1, some (x, w, none)) ⟨hi', hl2, ?_⟩ (by simp)
     simp only
     rw [sel_t (by rw [hPx, F.not_t d2]; rfl)]; exact heo'
    ·refine ih (suf, pre ++ [x], eo, add .i64 i 1, some (x, w, none)) ⟨hi', hl2, ?_⟩ (by simp)
     simp only
     rw [sel_f (by rw [hPx, F.not_f d2]; rfl)]; exact hb
theorem ok189 (h : Hello) (path : List Box) (mh : h.Mid) (pl : path.length ≤ 1073741824) (pm : ∀ y ∈ path, y.Mid) {f0 f1 f2 : Fl} (q0 : inFl f0 = true) (q1 : inFl f1 = true) (q2 : inFl f2 = true) :
  ∃ f g, HF (fbV h path).versions (fbV h path).exts f g ∧ fix Tb md 189 [sHello (row fI h.versions) (row fExt h.exts) f0 f1, R (row fBox path) f2] = some ⟨[sHello (row fI (fbV h path).versions) (row fExt (fbV h path).exts) f g, B (fbOk h path)], [], none⟩ := by
 have mh' := mh
 unfold Hello.Mid at mh'
 have hvl := mh'.1
 have hxl := mh'.2.1
 have wh : ∀ y ∈ h.exts, y.body.length ≤ 1099511627776 := fun y hy => Nat.le_trans (show y.body.length ≤ 1073741824 from mh'.2.2 y hy) (by decide)
 have wm : ∀ y ∈ h.exts, y.body.length ≤ 1073741824 := fun y hy => mh'.2.2 y hy
 have a1 : (fbL h path).length ≤ 1073741824 := Nat.le_trans lvs_len hvl
 have a2 : (sel (notIn (fbL h path)) idI h.versions).length ≤ 1073741824 := Nat.le_trans sel_len hvl
 have a3 : (fbT h path).length ≤ 1073741824 := Nat.le_trans ltags_len hxl
 have hk := HF.of2 (P := fun V X f g => fix Tb md 165 [sHello (row fI h.versions) (row fExt h.exts) (.sp 0 0) (.sp 0 1), R (row fI (fbL h path)) (.sp 1 0), R (row fI (fbT h path)) (.sp 2 0)] = some ⟨[sHello V X f g, B (fbOk h path)], [], none⟩) (ok165 h (fbL h path) (fbT h path) mh a1 a3 (f0 := .sp 0 0) (f1 := .sp 0 1) (f2 := .sp 1 0) (f3 := .sp 2 0) rfl rfl rfl rfl)
 obtain ⟨f, g, hf, hk⟩ := hk
 refine ⟨f, g, hf, ?_⟩
 have k1 := ok171 path h.versions pl pm hvl (f0 := .sp 0 0) (f1 := .sp 1 0) rfl rfl
 have k2 := ok287 h.versions (fbL h path) hvl a1 (f0 := .sp 0 0) (f1 := .sp 1 0) rfl rfl
 have k3 := ok186 path (sel (notIn (fbL h path)) idI h.versions) h.exts pl pm a2 hxl wm (f0 := .sp 0 0) (f1 := .sp 1 0) (f2 := .sp 2 0) rfl rfl rfl
 rw [show lvs path h.versions = fbL h path from rfl] at k1
 rw [show ltags path (sel (notIn (fbL h path)) idI h.versions) h.exts = fbT h path from rfl] at k3
 obtain ⟨w, hw⟩ := nm (fbOk h path)
 rw [← hw] at hk ⊢
 obtain ⟨eV, heV⟩ := nm (row fI (fbV h path).versions)
 obtain ⟨eX, heX⟩ := nm (row fExt (fbV h path).exts)
 rw [show row fI (partV h (fbL h path) (fbT h path)).versions = eV from heV.symm, show row fExt (partV h (fbL h path) (fbT h path)).exts = eX from heX.symm] at hk
 rw [← heV, ← heX]
 obtain ⟨dv, hdv⟩ := nm (row fI h.versions)
 obtain ⟨dx, hdx⟩ := nm (row fExt h.exts)
 obtain ⟨ep, hep⟩ := nm (row fBox path)
 obtain ⟨el, hel⟩ := nm (row fI (fbL h path))
 obtain ⟨ew, hew⟩ := nm (row fI (sel (notIn (fbL h path)) idI h.versions))
 obtain ⟨et, het⟩ := nm (row fI (fbT h path))
 rw [← hdv, ← hdx, ← hel, ← het] at hk
 rw [← hdv, ← hep, ← hel] at k1
 rw [← hdv, ← hel, ← hew] at k2
 rw [← hep, ← hew, ← hdx, ← het] at k3
 rw [← hdv, ← hdx, ← hep]
 replace hf := HF.fl hf
 rcases hf with ⟨rfl, rfl⟩ | ⟨rfl, rfl⟩ | ⟨rfl, rfl⟩
 all_goals
  generalize hr : (⟨_, [], none⟩ : Ret) = r
  refine fix_fn2 (fn := ir189) tb_189 rfl rfl (by decide) rfl ?_; intro Q hQ; simp only [shutArgs, shutS, List.map_cons, List.map_nil, ir189, shut_in q0, shut_in q1, shut_in q2, List.head?_nil, reduceCtorEq, if_false, sExt, sHello, sAnswer, sEdit, sDeal, sBox, sDialed, sKnown]
  intro add sub mul arith eq ne lt le gt ge neg conv mn mx not beq len at' ln bd cut app allS isNil mks set o hP F ho
  have c2 : o 171 [R ep (.sp 0 0), R dv (.sp 1 0)] = some ⟨[R el (.ow false)], [], none⟩ := by rw [ho]; exact k1
  have c3 : o 287 [R dv (.sp 0 0), R el (.sp 1 0)] = some ⟨[R ew (.ow false)], [], none⟩ := by rw [ho]; exact k2
  have c4 : o 186 [R ep (.sp 0 0), R ew (.sp 1 0), R dx (.sp 2 0)] = some ⟨[R et (.ow false)], [], none⟩ := by rw [ho]; exact k3
  have c5 := hk
  rw [← ho] at c5
  cbv
  rw [c2]; cbv
  rw [c3]; cbv
  rw [c4]; cbv
  rw [c5]; cbv
  rw [hQ]; cbv
  exact congrArg some hr
theorem ok189t (h : Hello) (path : List Box) (mh : h.Mid) (pl : path.length ≤ 1073741824) (pm : ∀ y ∈ path, y.Mid) {f0 f1 f2 : Fl} (q0 : inFl f0 = true) (q1 : inFl f1 = true) (q2 : inFl f2 = true) :
  fix Tb md 189 [sHello (row fI h.versions) (row fExt h.exts) f0 f1, R (row fBox path) f2] = some ⟨[sHello (row fI (fbV h path).versions) (row fExt (fbV h path).exts) (.ow false) (.ow false), B (fbOk h path)], [], none⟩ ∨
  ((fbV h path).exts = [] ∧ fix Tb md 189 [sHello (row fI h.versions) (row fExt h.exts) f0 f1, R (row fBox path) f2] = some ⟨[sHello (row fI (fbV h path).versions) [] (.ow false) .nl, B (fbOk h path)], [], none⟩) ∨
  ((fbV h path).versions = [] ∧ (fbV h path).exts = [] ∧ fix Tb md 189 [sHello (row fI h.versions) (row fExt h.exts) f0 f1, R (row fBox path) f2] = some ⟨[sHello [] [] .nl .nl, B (fbOk h path)], [], none⟩) :=
 HF.three (P := fun V X f g => fix Tb md 189 [sHello (row fI h.versions) (row fExt h.exts) f0 f1, R (row fBox path) f2] = some ⟨[sHello V X f g, B (fbOk h path)], [], none⟩) (ok189 h path mh pl pm q0 q1 q2)
theorem ok184 (h : Hello) (path : List Box) (mh : h.Mid) (pl : path.length ≤ 1073741824) (pm : ∀ y ∈ path, y.Mid) {f0 f1 f2 : Fl} (q0 : inFl f0 = true) (q1 : inFl f1 = true) (q2 : inFl f2 = true) :
  ∃ f g, HF (hfV h path).versions (hfV h path).exts f g ∧ fix Tb md 184 [sHello (row fI h.versions) (row fExt h.exts) f0 f1, R (row fBox path) f2] = some ⟨[sHello (row fI (hfV h path).versions) (row fExt (hfV h path).exts) f g, I (hfN h path), B (hfOk h path)], [], none⟩ := by
 have mh' := mh
 unfold Hello.Mid at mh'
 have hvl := mh'.1
 have hxl := mh'.2.1
 have wh : ∀ y ∈ h.exts, y.body.length ≤ 1099511627776 := fun y hy => Nat.le_trans (show y.body.length ≤ 1073741824 from mh'.2.2 y hy) (by decide)
 have k1 := ok113 h (by omega) (by omega) wh (f0 := .sp 0 0) (f1 := .sp 0 1) rfl rfl
 have k2 := ok185 h path mh pl pm (f0 := .sp 0 0) (f1 := .sp 0 1) (f2 := .sp 1 0) rfl rfl rfl
 have k3 := ok261 h mh (f0 := .sp 0 0) (f1 := .sp 0 1) rfl rfl
 obtain ⟨f, g, hf, k4⟩ := ok189 h path mh pl pm (f0 := .sp 0 0) (f1 := .sp 0 1) (f2 := .sp 1 0) rfl rfl rfl
 have k5 := fun (f0 f1 : Fl) (q0 : inFl f0 = true) (q1 : inFl f1 = true) => ok185 (fbV h path) path (fbV_mid mh) pl pm (f0 := f0) (f1 := f1) (f2 := .sp 1 0) q0 q1 rfl
 cases hi : isHel h with
 | false =>
  rw [(hf_a (path := path) hi).1, (hf_a (path := path) hi).2.1, (hf_a (path := path) hi).2.2]
  refine ⟨_, _, .nn, ?_⟩
  rw [hi] at k1
  clear k2 k3 k4 k5
  generalize hr : (⟨_, [], none⟩ : Ret) = r
  obtain ⟨dv, hdv⟩ := nm (row fI h.versions)
  obtain ⟨dx, hdx⟩ := nm (row fExt h.exts)
  obtain ⟨ep, hep⟩ := nm (row fBox path)
  rw [← hdv, ← hdx] at k1
  rw [← hdv, ← hdx, ← hep]
  refine fix_fn2 (fn := ir184) tb_184 rfl rfl (by decide) rfl ?_; intro Q hQ; simp only [shutArgs, shutS, List.map_cons, List.map_nil, ir184, shut_in q0, shut_in q1, shut_in q2, List.head?_nil, reduceCtorEq, if_false, sExt, sHello, sAnswer, sEdit, sDeal, sBox, sDialed, sKnown]
  intro add sub mul arith eq ne lt le gt ge neg conv mn mx not beq len at' ln bd cut app allS isNil mks set o hP F ho
  rw [← ho] at k1
  cbv
  rw [k1]; cbv
  rw [show not false = true by rw [F.not]; rfl]; cbv
  rw [hQ]; cbv
  exact congrArg some hr
 | true =>
  rw [hi] at k1
  cases hp : pw h path with
  | true =>
   rw [(hf_b hi hp).1, (hf_b hi hp).2.1, (hf_b hi hp).2.2]
   refine ⟨_, _, .oo _ _, ?_⟩
   rw [hp] at k2
   clear k4 k5
   generalize hr : (⟨_, [], none⟩ : Ret) = r
   obtain ⟨dv, hdv⟩ := nm (row fI h.versions)
   obtain ⟨dx, hdx⟩ := nm (row fExt h.exts)
   obtain ⟨ep, hep⟩ := nm (row fBox path)
   rw [← hdv, ← hdx] at k1 k2 k3
   rw [← hep] at k2
   rw [← hdv, ← hdx, ← hep]
   rw [← hdv, ← hdx] at hr
   refine fix_fn2 (fn := ir184) tb_184 rfl rfl (by decide) rfl ?_; intro Q hQ; simp only [shutArgs, shutS, List.map_cons, List.map_nil, ir184, shut_in q0, shut_in q1, shut_in q2, List.head?_nil, reduceCtorEq, if_false, sExt, sHello, sAnswer, sEdit, sDeal, sBox, sDialed, sKnown]
   intro add sub mul arith eq ne lt le gt ge neg conv mn mx not beq len at' ln bd cut app allS isNil mks set o hP F ho
   rw [← ho] at k1 k2 k3
   cbv
   rw [k1]; cbv
   rw [show not true = false by rw [F.not]; rfl]; cbv
   rw [k2]; cbv
   rw [k3]; cbv
   rw [hQ]; cbv
   exact congrArg some hr
  | false =>
   rw [hp] at k2
   obtain ⟨w, hw⟩ := nm (fbOk h path)
   obtain ⟨v, hv⟩ := nm (pw (fbV h path) path)
   rw [← hw] at k4
   rw [← hv] at k5
   have hcv : hfC h path = (w && v) := by rw [hw, hv]; rfl
   obtain ⟨eV, heV⟩ := nm (row fI (fbV h path).versions)
   obtain ⟨eX, heX⟩ := nm (row fExt (fbV h path).exts)
   rw [← heV, ← heX] at k4 k5
   obtain ⟨dv, hdv⟩ := nm (row fI h.versions)
   obtain ⟨dx, hdx⟩ := nm (row fExt h.exts)
   obtain ⟨ep, hep⟩ := nm (row fBox path)
   rw [← hdv, ← hdx] at k1 k2 k3 k4
   rw [← hep] at k2 k4 k5
   have k6 := k5 (inA f 0 0) (inA g 0 1) (hf.inl 0 0) (hf.inr 0 1)
   have hf' := HF.fl hf
   cases hc : (w && v) with
   | false =>
    rw [hc] at hcv
    rw [(hf_c hi hp hcv).1, (hf_c hi hp hcv).2.1, (hf_c hi hp hcv).2.2]
    refine ⟨_, _, .nn, ?_⟩
    rw [← hdv, ← hdx, ← hep]
    rcases hf' with ⟨rfl, rfl⟩ | ⟨rfl, rfl⟩ | ⟨rfl, rfl⟩
    all_goals
     simp only [inA] at k6
     generalize hr : (⟨_, [], none⟩ : Ret) = r
     refine fix_fn2 (fn := ir184) tb_184 rfl rfl (by decide) rfl ?_; intro Q hQ; simp only [shutArgs, shutS, List.map_cons, List.map_nil, ir184, shut_in q0, shut_in q1, shut_in q2, List.head?_nil, reduceCtorEq, if_false, sExt, sHello, sAnswer, sEdit, sDeal, sBox, sDialed, sKnown]
     intro add sub mul arith eq ne lt le gt ge neg conv mn mx not beq len at' ln bd cut app allS isNil mks set o hP F ho
     rw [← ho] at k1 k2 k3 k4 k6
     cbv
     rw [k1]; cbv
     rw [show not true = false by rw [F.not]; rfl]; cbv
     rw [k2]; cbv
     rw [k4]; cbv
     refine both (fun d1 => ?_) (fun d1 => ?_) <;> rw [d1] <;> cbv
     ·rw [hQ]; cbv
      exact congrArg some hr
     rw [F.not_f d1, Bool.true_and] at hc
     rw [hc] at k6
     rw [k6]; cbv
     rw [show not false = true by rw [F.not]; rfl]; cbv
     rw [hQ]; cbv
     exact congrArg some hr
   | true =>
    rw [hc] at hcv
    rw [Bool.and_eq_true] at hc
    rw [(hf_d hi hp hcv).1, (hf_d hi hp hcv).2.1, (hf_d hi hp hcv).2.2]
    refine ⟨_, _, hf, ?_⟩
    rw [← heV, ← heX, ← hdv, ← hdx, ← hep]
    rw [hc.1] at k4
    rw [hc.2] at k6
    rcases hf' with ⟨rfl, rfl⟩ | ⟨rfl, rfl⟩ | ⟨rfl, rfl⟩
    all_goals
     simp only [inA] at k6
     generalize hr : (⟨_, [], none⟩ : Ret) = r
     refine fix_fn2 (fn := ir184) tb_184 rfl rfl (by decide) rfl ?_; intro Q hQ; simp only [shutArgs, shutS, List.map_cons, List.map_nil, ir184, shut_in q0, shut_in q1, shut_in q2, List.head?_nil, reduceCtorEq, if_false, sExt, sHello, sAnswer, sEdit, sDeal, sBox, sDialed, sKnown]
     intro add sub mul arith eq ne lt le gt ge neg conv mn mx not beq len at' ln bd cut app allS isNil mks set o hP F ho
     rw [← ho] at k1 k2 k3 k4 k6
     cbv
     rw [k1]; cbv
     rw [show not true = false by rw [F.not]; rfl]; cbv
     rw [k2]; cbv
     rw [k4]; cbv
     rw [show not true = false by rw [F.not]; rfl]; cbv
     rw [k6]; cbv
     rw [show not true = false by rw [F.not]; rfl]; cbv
     rw [hQ]; cbv
     exact congrArg some hr
theorem ok184t (h : Hello) (path : List Box) (mh : h.Mid) (pl : path.length ≤ 1073741824) (pm : ∀ y ∈ path, y.Mid) {f0 f1 f2 : Fl} (q0 : inFl f0 = true) (q1 : inFl f1 = true) (q2 : inFl f2 = true) :
  fix Tb md 184 [sHello (row fI h.versions) (row fExt h.exts) f0 f1, R (row fBox path) f2] = some ⟨[sHello (row fI (hfV h path).versions) (row fExt (hfV h path).exts) (.ow false) (.ow false), I (hfN h path), B (hfOk h path)], [], none⟩ ∨
  ((hfV h path).exts = [] ∧ fix Tb md 184 [sHello (row fI h.versions) (row fExt h.exts) f0 f1, R (row fBox path) f2] = some ⟨[sHello (row fI (hfV h path).versions) [] (.ow false) .nl, I (hfN h path), B (hfOk h path)], [], none⟩) ∨
  ((hfV h path).versions = [] ∧ (hfV h path).exts = [] ∧ fix Tb md 184 [sHello (row fI h.versions) (row fExt h.exts) f0 f1, R (row fBox path) f2] = some ⟨[sHello [] [] .nl .nl, I (hfN h path), B (hfOk h path)], [], none⟩) :=
 HF.three (P := fun V X f g => fix Tb md 184 [sHello (row fI h.versions) (row fExt h.exts) f0 f1, R (row fBox path) f2] = some ⟨[sHello V X f g, I (hfN h path), B (hfOk h path)], [], none⟩) (ok184 h path mh pl pm q0 q1 q2)
theorem ok207 (h : Hello) (path : List Box) (vs : List Int) (mh : h.Mid) (pl : path.length ≤ 1073741824) (pm : ∀ y ∈ path, y.Mid) (hv : vs.length ≤ 1073741824) {f0 f1 f2 f3 : Fl} (q0 : inFl f0 = true) (q1 : inFl f1 = true) (q2 : inFl f2 = true) (q3 : inFl f3 = true) :
  fix Tb md 207 [sHello (row fI h.versions) (row fExt h.exts) f0 f1, R (row fBox path) f2, R (row fI vs) f3] = some ⟨[I (bdV h path vs)], [], none⟩ := by
 obtain ⟨f, g, hf, k1⟩ := ok184 h path mh pl pm (f0 := .sp 0 0) (f1 := .sp 0 1) (f2 := .sp 1 0) rfl rfl rfl
 have hVm := hfV_mid (path := path) mh
 unfold Hello.Mid at hVm
 have k2 := fun (f0 : Fl) (q0 : inFl f0 = true) => ok111 vs (hfV h path).versions hv hVm.1 (f0 := .sp 0 0) (f1 := f0) rfl q0
 obtain ⟨w, hw⟩ := nm (hfOk h path)
 obtain ⟨N, hN⟩ := nm (hfN h path)
 obtain ⟨m, hm⟩ := nm (bestC vs (hfV h path).versions)
 rw [show bdV h path vs = if w then m else 0 by rw [hw, hm]; rfl]
 rw [← hw, ← hN] at k1
 rw [← hm] at k2
 obtain ⟨eV, heV⟩ := nm (row fI (hfV h path).versions)
 obtain ⟨eX, heX⟩ := nm (row fExt (hfV h path).exts)
 obtain ⟨dv, hdv⟩ := nm (row fI h.versions)
 obtain ⟨dx, hdx⟩ := nm (row fExt h.exts)
 obtain ⟨ep, hep⟩ := nm (row fBox path)
 obtain ⟨ev, hev⟩ := nm (row fI vs)
 rw [← heV, ← heX, ← hdv, ← hdx, ← hep] at k1
 rw [← heV, ← hev] at k2
 rw [← hdv, ← hdx, ← hep, ← hev]
 have k6 := k2 (inA f 1 0) (hf.inl 1 0)
 replace hf := HF.fl hf
 rcases hf with ⟨rfl, rfl⟩ | ⟨rfl, rfl⟩ | ⟨rfl, rfl⟩
 all_goals
  simp only [inA] at k6
  generalize hr : (⟨_, [], none⟩ : Ret) = r
  refine fix_fn2 (fn := ir207) tb_207 rfl rfl (by decide) rfl ?_; intro Q hQ; simp only [shutArgs, shutS, List.map_cons, List.map_nil, ir207, shut_in q0, shut_in q1, shut_in q2, shut_in q3, List.head?_nil, reduceCtorEq, if_false, sExt, sHello, sAnswer, sEdit, sDeal, sBox, sDialed, sKnown]
  intro add sub mul arith eq ne lt le gt ge neg conv mn mx not beq len at' ln bd cut app allS isNil mks set o hP F ho
  rw [← ho] at k1 k6
  cbv
  rw [k1]; cbv
  refine both (fun d1 => ?_) (fun d1 => ?_) <;> rw [d1] <;> cbv
  ·rw [hQ]; cbv
   rw [← hr, F.not_t d1]; rfl
  rw [k6]; cbv
  rw [hQ]; cbv
  rw [← hr, F.not_f d1]; rfl
theorem ok82 (x : Hello) (k : Int) (hk : Lim k (nHello x)) (w : x.Mid) {f0 f1 : Fl} (q0 : inFl f0 = true) (q1 : inFl f1 = true) : fix Tb md 82 [sHello (row fI (wHello x k).versions) (row fExt (wHello x k).exts) f0 f1, I k] = some ⟨[I (k + (nHello x : Int))], [], none⟩ := by
 have hn : nHello x = x.versions.length + cExtS x.exts := rfl
 unfold Hello.Mid at w
 have a0 : AtK k k 0 := AtK.zero
 obtain ⟨z1, hz1⟩ := nm (k + (x.versions.length : Int))
 have a1 : AtK z1 k (0 + x.versions.length) := hz1 ▸ a0.plus
 have m1 : Lim k (x.versions.length) := a0.lim hk (by omega)
 have n1 : 0 ≤ z1 := by have := m1.nn; omega
 obtain ⟨z2, hz2⟩ := nm (z1 + (cExtS x.exts : Int))
 have a2 : AtK z2 k (0 + x.versions.length + cExtS x.exts) := hz2 ▸ a1.plus
 have m2 : Lim z1 (cExtS x.exts) := a1.lim hk (by omega)
 have n2 : 0 ≤ z2 := by have := m2.nn; omega
 rw [show k + (nHello x : Int) = z2 by rw [a2.same, hn]; simp]
 have x0 : (wHello x k).versions = mI x.versions k := by simp only [wHello, hz1, hz2]
 have x1 : (wHello x k).exts = mExtS x.exts z1 := by simp only [wHello, hz1, hz2]
 rw [x0, x1]
 refine fix_fn (fn := ir82) tb_82 rfl rfl (by decide) rfl ?_; simp only [shutArgs, shutS, List.map_cons, List.map_nil, ir82, shut_in q0, shut_in q1, List.head?_nil, reduceCtorEq, if_false, sExt, sHello, sAnswer, sEdit, sDeal, sBox, sDialed, sKnown]
 generalize hr : (⟨_, [], none⟩ : Ret) = r
 obtain ⟨g0, hg0⟩ := nm (row fI (mI x.versions k))
 obtain ⟨g1, hg1⟩ := nm (row fExt (mExtS x.exts z1))
 rw [← hg0, ← hg1]
 intro add sub mul arith eq ne lt le gt ge neg conv mn mx not beq len at' ln bd cut app allS isNil mks set o hP F ho
 have c1 : o 125 [R g0 (.sp 0 0), I k] = some ⟨[I z1], [], none⟩ := by rw [ho, hz1, hg0]; exact ok125 _ _ m1 (Nat.le_trans (w.1) (by decide)) rfl
 have c2 : o 236 [R g1 (.sp 0 0), I z1] = some ⟨[I z2], [], none⟩ := by rw [ho, hz2, hg1]; exact ok236 _ _ m2 (Nat.le_trans w.2.1 (by decide)) (fun y hy => Nat.le_trans ((w.2.2 y hy)) (by decide)) rfl
 cbv
 rw [c1]; cbv
 rw [show lt z1 0 = false by rw [F.lt]; simp; omega]; cbv
 rw [c2]; cbv
 rw [show lt z2 0 = false by rw [F.lt]; simp; omega]; cbv
 exact congrArg some hr
end Go.Vm
