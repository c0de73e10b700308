/- What the functions answer. -/
import Derived.Test.YtijojkfdbpiimaaGreatGDTab
import Derived.Test.YtijojkfdbpiimaaGreatGDFA
import Derived.Test.YtijojkfdbpiimaaGreatGDFB
import Derived.Test.YtijojkfdbpiimaaGreatGDFD
import Derived.Test.YtijojkfdbpiimaaGreatGDFE
import Derived.Test.YtijojkfdbpiimaaGreatGDFI
import Derived.Test.YtijojkfdbpiimaaGreatGDFJ
set_option maxHeartbeats 4000000
set_option maxRecDepth 10000
set_option linter.unusedVariables false
set_option linter.unusedSimpArgs false
namespace Go.Vm
theorem ok211r (h : Hello) (path : List Box) (vs tg : List Int) (k : Int) (mh : h.Mid) (pl : path.length ≤ 1073741824) (pm : ∀ y ∈ path, y.Mid) (hv : vs.length ≤ 1073741824) (ht : tg.length ≤ 1073741824) {f0 f1 f2 f3 f4 : Fl} (q0 : inFl f0 = true) (q1 : inFl f1 = true) (q2 : inFl f2 = true) (q3 : inFl f3 = true) (q4 : inFl f4 = true) (r : Ret)
  (rA : doOk h path vs tg k = true → (⟨[sDeal true (caV vs tg (ppV path h)).version (row fI (tags (caV vs tg (ppV path h)).exts)) (.ow false)], [], none⟩ : Ret) = r) (rC : doOk h path vs tg k = false → (⟨[sDeal false 0 [] .nl], [], none⟩ : Ret) = r) :
  fix Tb md 211 [sHello (row fI h.versions) (row fExt h.exts) f0 f1, R (row fBox path) f2, R (row fI vs) f3, R (row fI tg) f4, I k] = some r := by
 obtain ⟨fv, gv, hf, k1⟩ := HF.of2 (P := fun vv xx f g => fix Tb md 182 [R (row fBox path) (.sp 0 0), sHello (row fI h.versions) (row fExt h.exts) (.sp 1 0) (.sp 1 1)] = some ⟨[sHello vv xx f g, B (ppOk path h)], [], none⟩) (ok182 path h pl pm mh (f0 := .sp 0 0) (f1 := .sp 1 0) (f2 := .sp 1 1) rfl rfl rfl)
 obtain ⟨seen, hseen⟩ := nm (ppV path h)
 have ms : seen.Mid := by rw [hseen]; exact ppV_mid mh
 obtain ⟨w, hw⟩ := nm (ppOk path h)
 have hok : doOk h path vs tg k = (w && dlOk h seen vs tg k []) := by rw [hw, hseen]; rfl
 rw [hok] at rA rC
 rw [← hseen] at rA
 rw [← hw, ← hseen] at k1
 clear hok
 obtain ⟨x, hx⟩ : ∃ x : SU, (dlOk h seen vs tg k [] = true → sDeal true (caV vs tg seen).version (row fI (tags (caV vs tg seen).exts)) (.ow false) = x) ∧ (dlOk h seen vs tg k [] = false → sDeal false 0 [] .nl = x) := by
  cases q : dlOk h seen vs tg k [] with
  | true => exact ⟨_, fun _ => rfl, fun e => by cases e⟩
  | false => exact ⟨_, fun e => (by cases e), fun _ => rfl⟩
 have k2 := fun (a b : Fl) (qa : inFl a = true) (qb : inFl b = true) => ok254r h seen vs tg k [] mh ms hv ht (by simp) (f0 := .sp 0 0) (f1 := .sp 0 1) (f2 := a) (f3 := b) (f4 := .sp 2 0) (f5 := .sp 3 0) (f6 := .nl) rfl rfl qa qb rfl rfl rfl ⟨[x], [], none⟩ (fun e => by rw [← hx.1 e]; rfl) (fun e => by rw [← hx.2 e])
 cases hd : dlOk h seen vs tg k [] with
 | true =>
  rw [← hx.1 hd] at k2
  rw [hd, Bool.and_true] at rA rC
  clear hx
  obtain ⟨ev, hev⟩ := nm (row fI vs)
  obtain ⟨et, het⟩ := nm (row fI tg)
  obtain ⟨dv, hdv⟩ := nm (row fI h.versions)
  obtain ⟨dx, hdx⟩ := nm (row fExt h.exts)
  obtain ⟨sv, hsv⟩ := nm (row fI seen.versions)
  obtain ⟨sx, hsx⟩ := nm (row fExt seen.exts)
  obtain ⟨ep, hep⟩ := nm (row fBox path)
  obtain ⟨ex, hex⟩ := nm (row fI (tags (caV vs tg seen).exts))
  obtain ⟨ve, hve⟩ := nm ((caV vs tg seen).version)
  rw [← hex, ← hve] at k2 rA
  rw [← hep, ← hdv, ← hdx, ← hsv, ← hsx] at k1
  rw [← hev, ← het, ← hdv, ← hdx, ← hsv, ← hsx, show row fEdit ([] : List Edit) = [] from rfl] at k2
  rw [← hev, ← het, ← hdv, ← hdx, ← hep]
  have k2' := k2 (inA fv 1 0) (inA gv 1 1) (hf.inl 1 0) (hf.inr 1 1)
  replace hf := HF.fl hf
  rcases hf with ⟨rfl, rfl⟩ | ⟨rfl, rfl⟩ | ⟨rfl, rfl⟩
  all_goals
   simp only [inA] at k2'
   refine fix_fn2 (fn := ir211) tb_211 rfl rfl (by decide) rfl ?_; intro Q hQ; simp only [shutArgs, shutS, List.map_cons, List.map_nil, ir211, shut_in q0, shut_in q1, shut_in q2, shut_in q3, shut_in q4, List.head?_nil, reduceCtorEq, if_false, sExt, sHello, sAnswer, sEdit, sDeal, sBox, sDialed, sKnown]
   intro add sub mul arith eq ne lt le gt ge neg conv mn mx not beq len at' ln bd cut app allS isNil mks set o hP F ho
   rw [← ho] at k1 k2'
   cbv
   rw [k1]; cbv
   refine both (fun d1 => ?_) (fun d1 => ?_) <;> rw [d1] <;> cbv
   ·rw [hQ]; cbv
    exact congrArg some (rC (F.not_t d1))
   rw [k2']; cbv
   rw [hQ]; cbv
   exact congrArg some (rA (F.not_f d1))
 | false =>
  rw [← hx.2 hd] at k2
  rw [hd, Bool.and_false] at rA rC
  clear hx
  obtain ⟨ev, hev⟩ := nm (row fI vs)
  obtain ⟨et, het⟩ := nm (row fI tg)
  obtain ⟨dv, hdv⟩ := nm (row fI h.versions)
  obtain ⟨dx, hdx⟩ := nm (row fExt h.exts)
  obtain ⟨sv, hsv⟩ := nm (row fI seen.versions)
  obtain ⟨sx, hsx⟩ := nm (row fExt seen.exts)
  obtain ⟨ep, hep⟩ := nm (row fBox path)
  rw [← hep, ← hdv, ← hdx, ← hsv, ← hsx] at k1
  rw [← hev, ← het, ← hdv, ← hdx, ← hsv, ← hsx, show row fEdit ([] : List Edit) = [] from rfl] at k2
  rw [← hev, ← het, ← hdv, ← hdx, ← hep]
  have k2' := k2 (inA fv 1 0) (inA gv 1 1) (hf.inl 1 0) (hf.inr 1 1)
  replace hf := HF.fl hf
  rcases hf with ⟨rfl, rfl⟩ | ⟨rfl, rfl⟩ | ⟨rfl, rfl⟩
  all_goals
   simp only [inA] at k2'
   refine fix_fn2 (fn := ir211) tb_211 rfl rfl (by decide) rfl ?_; intro Q hQ; simp only [shutArgs, shutS, List.map_cons, List.map_nil, ir211, shut_in q0, shut_in q1, shut_in q2, shut_in q3, shut_in q4, List.head?_nil, reduceCtorEq, if_false, sExt, sHello, sAnswer, sEdit, sDeal, sBox, sDialed, sKnown]
   intro add sub mul arith eq ne lt le gt ge neg conv mn mx not beq len at' ln bd cut app allS isNil mks set o hP F ho
   rw [← ho] at k1 k2'
   cbv
   rw [k1]; cbv
   refine both (fun d1 => ?_) (fun d1 => ?_) <;> rw [d1] <;> cbv
   ·rw [hQ]; cbv
    exact congrArg some (rC rfl)
   rw [k2']; cbv
   rw [hQ]; cbv
   exact congrArg some (rC rfl)
theorem ok211f (h : Hello) (path : List Box) (vs tg : List Int) (k : Int) (mh : h.Mid) (pl : path.length ≤ 1073741824) (pm : ∀ y ∈ path, y.Mid) (hv : vs.length ≤ 1073741824) (ht : tg.length ≤ 1073741824) {f0 f1 f2 f3 f4 : Fl} (q0 : inFl f0 = true) (q1 : inFl f1 = true) (q2 : inFl f2 = true) (q3 : inFl f3 = true) (q4 : inFl f4 = true) :
  fix Tb md 211 [sHello (row fI h.versions) (row fExt h.exts) f0 f1, R (row fBox path) f2, R (row fI vs) f3, R (row fI tg) f4, I k] = some ⟨[sDeal (doV h path vs tg k).ok (doV h path vs tg k).version (row fI (doV h path vs tg k).tags) (tF (doOk h path vs tg k))], [], none⟩ := by
 cases q : doOk h path vs tg k with
 | true =>
  refine ok211r h path vs tg k mh pl pm hv ht q0 q1 q2 q3 q4 _ (fun _ => ?_) (fun e => by rw [q] at e; cases e)
  rw [doV, q]; rfl
 | false =>
  rw [show doV h path vs tg k = ⟨false, 0, []⟩ by rw [doV, q]; rfl]
  exact ok211r h path vs tg k mh pl pm hv ht q0 q1 q2 q3 q4 _ (fun e => by rw [q] at e; cases e) (fun _ => rfl)
theorem doV_tags {h : Hello} {path : List Box} {vs tg : List Int} {k : Int} (q : doOk h path vs tg k = false) : (doV h path vs tg k).tags = [] := by unfold doV; rw [q]; rfl
theorem joint51 (h : Hello) (path : List Box) (vs tg : List Int) (k : Int) (mh : h.Mid) (pl : path.length ≤ 1073741824) (pm : ∀ y ∈ path, y.Mid) (hv : vs.length ≤ 1073741824) (ht : tg.length ≤ 1073741824) {f0 f1 f2 f3 f4 : Fl} (q0 : inFl f0 = true) (q1 : inFl f1 = true) (q2 : inFl f2 = true) (q3 : inFl f3 = true) (q4 : inFl f4 = true) :
  ((fix Tb md 210 [sHello (row fI h.versions) (row fExt h.exts) f0 f1, R (row fBox path) f2, R (row fI vs) f3, R (row fI tg) f4, I k] = some ⟨[sDeal (doV h path vs tg k).ok (doV h path vs tg k).version (row fI (doV h path vs tg k).tags) (.ow false)], [], none⟩) ∧ (fix Tb md 211 [sHello (row fI h.versions) (row fExt h.exts) f0 f1, R (row fBox path) f2, R (row fI vs) f3, R (row fI tg) f4, I k] = some ⟨[sDeal (doV h path vs tg k).ok (doV h path vs tg k).version (row fI (doV h path vs tg k).tags) (.ow false)], [], none⟩)) ∨
  (((doV h path vs tg k).tags = [] ∧ fix Tb md 210 [sHello (row fI h.versions) (row fExt h.exts) f0 f1, R (row fBox path) f2, R (row fI vs) f3, R (row fI tg) f4, I k] = some ⟨[sDeal (doV h path vs tg k).ok (doV h path vs tg k).version [] .nl], [], none⟩) ∧ ((doV h path vs tg k).tags = [] ∧ fix Tb md 211 [sHello (row fI h.versions) (row fExt h.exts) f0 f1, R (row fBox path) f2, R (row fI vs) f3, R (row fI tg) f4, I k] = some ⟨[sDeal (doV h path vs tg k).ok (doV h path vs tg k).version [] .nl], [], none⟩)) := by
 have p := ok210f h path vs tg k mh pl pm hv ht q0 q1 q2 q3 q4
 have q := ok211f h path vs tg k mh pl pm hv ht q0 q1 q2 q3 q4
 cases e : doOk h path vs tg k with
 | true => rw [e] at p q; exact .inl ⟨p, q⟩
 | false => rw [e, doV_tags e] at p q; exact .inr ⟨⟨doV_tags e, p⟩, doV_tags e, q⟩
theorem ok65 (x : Deal) (w : x.Mid) {f0 : Fl} (q0 : inFl f0 = true) {g0 : Fl} (p0 : inFl g0 = true) :
  fix Tb md 65 [sDeal x.ok x.version (row fI x.tags) f0, sDeal x.ok x.version (row fI x.tags) g0] = some ⟨[B true], [], none⟩ := by
 refine fix_fn (fn := ir65) tb_65 rfl rfl (by decide) rfl ?_; simp only [shutArgs, shutS, List.map_cons, List.map_nil, ir65, shut_in q0, shut_in p0, List.head?_nil, reduceCtorEq, if_false, sExt, sHello, sAnswer, sEdit, sDeal, sBox, sDialed, sKnown]
 generalize hr : (⟨_, [], none⟩ : Ret) = r
 obtain ⟨e1, he1⟩ := nm (row fI x.tags)
 rw [← he1]
 unfold Deal.Mid at w
 intro add sub mul arith eq ne lt le gt ge neg conv mn mx not beq len at' ln bd cut app allS isNil mks set o hP F ho
 have c1 : o 79 [R e1 (.sp 0 0), R e1 (.sp 1 0)] = some ⟨[B true], [], none⟩ := by rw [ho, he1]; exact ok79t _ (by have := w; omega) rfl rfl
 cbv
 rw [show not (beq x.ok x.ok) = false by rw [F.not, F.beq]; simp]; cbv
 rw [F.ne_f rfl]; cbv
 rw [c1]; cbv
 rw [show not true = false by rw [F.not]; rfl]; cbv
 exact congrArg some hr
theorem ok321 (x : Ext) (w : x.Mid) {f0 : Fl} (q0 : inFl f0 = true) {g0 : Fl} (p0 : inFl g0 = true) :
  fix Tb md 321 [sExt x.tag (row fI x.body) f0, sExt x.tag (row fI x.body) g0] = some ⟨[B true], [], none⟩ := by
 refine fix_fn (fn := ir321) tb_321 rfl rfl (by decide) rfl ?_; simp only [shutArgs, shutS, List.map_cons, List.map_nil, ir321, shut_in q0, shut_in p0, List.head?_nil, reduceCtorEq, if_false, sExt, sHello, sAnswer, sEdit, sDeal, sBox, sDialed, sKnown]
 generalize hr : (⟨_, [], none⟩ : Ret) = r
 obtain ⟨e1, he1⟩ := nm (row fI x.body)
 rw [← he1]
 unfold Ext.Mid at w
 intro add sub mul arith eq ne lt le gt ge neg conv mn mx not beq len at' ln bd cut app allS isNil mks set o hP F ho
 have c1 : o 79 [R e1 (.sp 0 0), R e1 (.sp 1 0)] = some ⟨[B true], [], none⟩ := by rw [ho, he1]; exact ok79t _ (by have := w; omega) rfl rfl
 cbv
 rw [F.ne_f rfl]; cbv
 rw [c1]; cbv
 rw [show not true = false by rw [F.not]; rfl]; cbv
 exact congrArg some hr
theorem ok200 (l : List (Ext)) (w : l.length ≤ 1073741824 ∧ ∀ y ∈ l, y.Mid) {f0 f1 : Fl} (q0 : inFl f0 = true) (q1 : inFl f1 = true) :
  fix Tb md 200 [R (row fExt l) f0, R (row fExt l) f1] = some ⟨[B true], [], none⟩ := by
 have w1 := w.1
 refine fix_fn (fn := ir200) tb_200 rfl rfl (by decide) rfl ?_; simp only [shutArgs, shutS, List.map_cons, List.map_nil, ir200, shut_in q0, shut_in q1, List.head?_nil, reduceCtorEq, if_false, sExt, sHello, sAnswer, sEdit, sDeal, sBox, sDialed, sKnown]
 generalize hr : (⟨_, [], none⟩ : Ret) = r
 obtain ⟨ea, hea⟩ := nm (row fExt l)
 rw [← hea]
 intro add sub mul arith eq ne lt le gt ge neg conv mn mx not beq len at' ln bd cut app allS isNil mks set o hP F ho
 have la := F.len_at hea
 cbv
 rw [F.ne_f rfl]; cbv
 refine loop_ind hP (σ := List (Ext) × List (Ext) × Int) (fun s => [(0, R ea .sh), (1, R ea .sh), (4, B false), (5, I s.2.2)])
  (fun s => At s.2.2 s.2.1.length ∧ l = s.2.1 ++ s.1) (fun s => s.1.length) (l, [], 0) rfl ⟨rfl, rfl⟩ ?_
 rintro ⟨suf, pre, i⟩ ⟨hi, hl'⟩ ih
 simp only at hi hl' ih
 cbv
 cases suf with
 | nil =>
  rw [F.lt_f hi la (by simp [hl'])]; cbv
  exact congrArg some hr
 | cons x suf =>
  rw [F.lt_t hi la (by simp [hl'])]; cbv
  obtain ⟨e1, he1⟩ := nm (row fI x.body)
  obtain ⟨ix, hix⟩ := nm (pre.length * 2)
  have a1 : at' 2 ea i = some (ix, [.int .i64 x.tag, .row () e1]) := by rw [hix, he1]; exact F.get hi hea hl' (fun _ => rfl) (by decide)
  rw [a1]; cbv
  try (rw [a1]; cbv)
  have c1 : o 321 [sExt x.tag e1 (.sp 0 1), sExt x.tag e1 (.sp 1 1)] = some ⟨[B true], [], none⟩ := by rw [ho, he1]; exact ok321 x (w.2 x (by rw [hl']; simp)) rfl rfl
  rw [c1]; cbv
  rw [show not true = false by rw [F.not]; rfl]; cbv
  refine ih (suf, pre ++ [x], add .i64 i 1) ⟨at_len (F.inc hi (by simp [hl'] at w1; omega)) (by simp), by simp [hl']⟩ (by simp)
theorem ok78 (x : Hello) (w : x.Mid) {f0 f1 : Fl} (q0 : inFl f0 = true) (q1 : inFl f1 = true) {g0 g1 : Fl} (p0 : inFl g0 = true) (p1 : inFl g1 = true) :
  fix Tb md 78 [sHello (row fI x.versions) (row fExt x.exts) f0 f1, sHello (row fI x.versions) (row fExt x.exts) g0 g1] = some ⟨[B true], [], none⟩ := by
 refine fix_fn (fn := ir78) tb_78 rfl rfl (by decide) rfl ?_; simp only [shutArgs, shutS, List.map_cons, List.map_nil, ir78, shut_in q0, shut_in q1, shut_in p0, shut_in p1, List.head?_nil, reduceCtorEq, if_false, sExt, sHello, sAnswer, sEdit, sDeal, sBox, sDialed, sKnown]
 generalize hr : (⟨_, [], none⟩ : Ret) = r
 obtain ⟨e1, he1⟩ := nm (row fI x.versions)
 obtain ⟨e2, he2⟩ := nm (row fExt x.exts)
 rw [← he1, ← he2]
 unfold Hello.Mid at w
 intro add sub mul arith eq ne lt le gt ge neg conv mn mx not beq len at' ln bd cut app allS isNil mks set o hP F ho
 have c1 : o 79 [R e1 (.sp 0 0), R e1 (.sp 1 0)] = some ⟨[B true], [], none⟩ := by rw [ho, he1]; exact ok79t _ (by have := w.1; omega) rfl rfl
 have c2 : o 200 [R e2 (.sp 0 0), R e2 (.sp 1 0)] = some ⟨[B true], [], none⟩ := by rw [ho, he2]; exact ok200 _ w.2 rfl rfl
 cbv
 rw [c1]; cbv
 rw [show not true = false by rw [F.not]; rfl]; cbv
 rw [c2]; cbv
 rw [show not true = false by rw [F.not]; rfl]; cbv
 exact congrArg some hr
theorem ok319 (x : Ext) (left : Int) (w : x.Fits) (h1 : 0 ≤ left) (h2 : left ≤ 1048576) {f0 : Fl} (q0 : inFl f0 = true) :
  fix Tb md 319 [sExt x.tag (row fI x.body) f0, I left] = some ⟨[I (szExt x left)], [], none⟩ := by
 refine fix_fn (fn := ir319) tb_319 rfl rfl (by decide) rfl ?_; simp only [shutArgs, shutS, List.map_cons, List.map_nil, ir319, shut_in q0, List.head?_nil, reduceCtorEq, if_false, sExt, sHello, sAnswer, sEdit, sDeal, sBox, sDialed, sKnown]
 obtain ⟨v1, hv1⟩ := nm (sz1 x.body.length left)
 rw [show szExt x left = v1 by rw [hv1]; rfl]
 generalize hr : (⟨_, [], none⟩ : Ret) = r
 obtain ⟨e1, he1⟩ := nm (row fI x.body)
 rw [← he1]
 have g1 : v1 ≤ 1048576 := by rw [hv1]; exact (Sz.of1 x.body.length).up h2
 have l1 : -1 ≤ v1 := by rw [hv1]; exact (Sz.of1 x.body.length).lo _ h2
 unfold Ext.Fits at w
 intro add sub mul arith eq ne lt le gt ge neg conv mn mx not beq len at' ln bd cut app allS isNil mks set o hP F ho
 have c1 : o 227 [R e1 (.sp 0 0), I left] = some ⟨[I v1], [], none⟩ := by rw [ho, hv1, he1]; exact ok227 fI _ _ w.2.1 h1 h2 rfl
 cbv
 rw [c1]; cbv
 refine both (fun d1 => ?_) (fun d1 => ?_) <;> rw [d1] <;> cbv
 ·clear hP c1 ho; simp only [F.lt, decide_eq_true_eq] at d1; clear F; rw [← hr, show v1 = -1 by omega]
 exact congrArg some hr
theorem ok197 (l : List Ext) (left : Int) (w : l.length ≤ 9223372036854775807 ∧ ∀ y ∈ l, y.Fits) (h1 : 0 ≤ left) (h2 : left ≤ 1048576) {f0 : Fl} (q0 : inFl f0 = true) :
  fix Tb md 197 [R (row fExt l) f0, I left] = some ⟨[I (szL szExt l left)], [], none⟩ := by
 have w1 := w.1
 by_cases hl : left - l.length < 0
 ·rw [show szL szExt l left = -1 from szF_neg szExt_Sz l _ (by unfold sz1; rw [if_pos hl])]
  refine fix_fn (fn := ir197) tb_197 rfl rfl (by decide) rfl ?_; simp only [shutArgs, shutS, List.map_cons, List.map_nil, ir197, shut_in q0, List.head?_nil, reduceCtorEq, if_false, sExt, sHello, sAnswer, sEdit, sDeal, sBox, sDialed, sKnown]
  generalize hr : (⟨_, [], none⟩ : Ret) = r
  obtain ⟨ea, hea⟩ := nm (row fExt l)
  rw [← hea]
  intro add sub mul arith eq ne lt le gt ge neg conv mn mx not beq len at' ln bd cut app allS isNil mks set o hP F ho
  have le := F.len_at hea
  unfold At at le
  have hs : lt (sub .i64 left (len ea)) 0 = true := by rw [F.lt, F.sub, le, wrap64 (by omega) (by omega)]; simp; omega
  cbv
  rw [hs]
  cbv
  exact congrArg some hr
 ·have hT : szL szExt l left = l.foldl (fun a x => szExt x a) (left - l.length) := by unfold szL sz1; rw [if_neg hl]
  rw [hT]
  refine fix_fn (fn := ir197) tb_197 rfl rfl (by decide) rfl ?_; simp only [shutArgs, shutS, List.map_cons, List.map_nil, ir197, shut_in q0, List.head?_nil, reduceCtorEq, if_false, sExt, sHello, sAnswer, sEdit, sDeal, sBox, sDialed, sKnown]
  obtain ⟨v, hv⟩ := nm (left - l.length)
  rw [← hv]
  have u3 : 0 ≤ v := by omega
  have u4 : v ≤ 1048576 := by omega
  have u5 : l.length ≤ 1048576 := by omega
  obtain ⟨T, hT⟩ := nm (l.foldl (fun a x => szExt x a) v)
  rw [← hT]
  generalize hr : (⟨_, [], none⟩ : Ret) = r
  obtain ⟨ea, hea⟩ := nm (row fExt l)
  rw [← hea]
  intro add sub mul arith eq ne lt le gt ge neg conv mn mx not beq len at' ln bd cut app allS isNil mks set o hP F ho
  have le := F.len_at hea
  have e1 : sub .i64 left (len ea) = v := by unfold At at le; rw [F.sub, le, wrap64 (by omega) (by omega), hv]
  have hs : lt v 0 = false := by rw [F.lt, hv]; simp; omega
  cbv
  rw [e1, hs]
  cbv
  refine loop_ind hP (σ := List (Ext) × List (Ext) × Int × Int) (fun s => [(0, R ea .sh), (1, I s.2.2.1), (4, I 0), (5, I s.2.2.2)])
   (fun s => At s.2.2.2 s.2.1.length ∧ l = s.2.1 ++ s.1 ∧ 0 ≤ s.2.2.1 ∧ s.2.2.1 ≤ 1048576 ∧ s.1.foldl (fun a x => szExt x a) s.2.2.1 = T) (fun s => s.1.length) (l, [], v, 0) rfl ⟨rfl, rfl, u3, u4, hT.symm⟩ ?_
  rintro ⟨suf, pre, a, i⟩ ⟨hi, hl', ha0, ha1, hf⟩ ih
  simp only at hi hl' ha0 ha1 hf ih
  cbv
  cases suf with
  | nil =>
   rw [F.lt_f hi le (by simp [hl'])]; cbv
   simp only [List.foldl_nil] at hf
   rw [← hr, hf]
  | cons x suf =>
   rw [F.lt_t hi le (by simp [hl'])]; cbv
   rw [List.foldl_cons] at hf
   obtain ⟨e1, he1⟩ := nm (row fI x.body)
   obtain ⟨ix, hix⟩ := nm (pre.length * 2)
   rw [show at' 2 ea i = some (ix, [.int .i64 x.tag, .row () e1]) by rw [hix, he1]; exact F.get hi hea hl' (fun _ => rfl) (by decide)]; cbv
   obtain ⟨a', ha'⟩ := nm (szExt x a)
   rw [← ha'] at hf
   have u1 : a' ≤ 1048576 := by rw [ha']; exact (szExt_Sz x).up ha1
   have u2 : -1 ≤ a' := by rw [ha']; exact (szExt_Sz x).lo _ ha1
   have c1 : o 319 [sExt x.tag e1 (.sp 0 1), I a] = some ⟨[I a'], [], none⟩ := by rw [ho, ha', he1]; exact ok319 x a (w.2 x (by rw [hl']; simp)) ha0 ha1 rfl
   rw [c1]; cbv
   refine both (fun c => ?_) (fun c => ?_) <;> rw [c] <;> cbv
   ·simp only [F.lt, decide_eq_true_eq] at c
    rw [← hr, ← hf, szF_neg szExt_Sz suf a' (by omega)]
   ·simp only [F.lt, decide_eq_false_iff_not] at c
    refine ih (suf, pre ++ [x], a', add .i64 i 1) ⟨at_len (F.inc hi (by simp [hl'] at u5; omega)) (by simp), by simp [hl'], by simp only; omega, u1, hf⟩ (by simp)
theorem ok83 (x : Hello) (left : Int) (w : x.Fits) (h1 : 0 ≤ left) (h2 : left ≤ 1048576) {f0 f1 : Fl} (q0 : inFl f0 = true) (q1 : inFl f1 = true) :
  fix Tb md 83 [sHello (row fI x.versions) (row fExt x.exts) f0 f1, I left] = some ⟨[I (szHello x left)], [], none⟩ := by
 refine fix_fn (fn := ir83) tb_83 rfl rfl (by decide) rfl ?_; simp only [shutArgs, shutS, List.map_cons, List.map_nil, ir83, shut_in q0, shut_in q1, List.head?_nil, reduceCtorEq, if_false, sExt, sHello, sAnswer, sEdit, sDeal, sBox, sDialed, sKnown]
 obtain ⟨v1, hv1⟩ := nm (sz1 x.versions.length left)
 obtain ⟨v2, hv2⟩ := nm (szL szExt x.exts v1)
 rw [show szHello x left = v2 by rw [hv2, hv1]; rfl]
 generalize hr : (⟨_, [], none⟩ : Ret) = r
 obtain ⟨e1, he1⟩ := nm (row fI x.versions)
 obtain ⟨e2, he2⟩ := nm (row fExt x.exts)
 rw [← he1, ← he2]
 have g1 : v1 ≤ 1048576 := by rw [hv1]; exact (Sz.of1 x.versions.length).up h2
 have l1 : -1 ≤ v1 := by rw [hv1]; exact (Sz.of1 x.versions.length).lo _ h2
 have g2 : v2 ≤ 1048576 := by rw [hv2]; exact (Sz.list szExt_Sz x.exts).up g1
 have l2 : -1 ≤ v2 := by rw [hv2]; exact (Sz.list szExt_Sz x.exts).lo _ g1
 have n2 : v1 < 0 → v2 = -1 := fun q => by rw [hv2]; exact (Sz.list szExt_Sz x.exts).neg _ q
 unfold Hello.Fits at w
 intro add sub mul arith eq ne lt le gt ge neg conv mn mx not beq len at' ln bd cut app allS isNil mks set o hP F ho
 have c1 : o 227 [R e1 (.sp 0 0), I left] = some ⟨[I v1], [], none⟩ := by rw [ho, hv1, he1]; exact ok227 fI _ _ w.1.1 h1 h2 rfl
 have c2 : 0 ≤ v1 → o 197 [R e2 (.sp 0 0), I v1] = some ⟨[I v2], [], none⟩ := by intro q; rw [ho, hv2, he2]; exact ok197 _ _ w.2 q g1 rfl
 cbv
 rw [c1]; cbv
 refine both (fun d1 => ?_) (fun d1 => ?_) <;> rw [d1] <;> cbv
 ·clear hP c1 c2 ho; simp only [F.lt, decide_eq_true_eq] at d1; clear F; rw [← hr, show v2 = -1 by omega]
 rw [c2 (by simp only [F.lt, decide_eq_false_iff_not] at d1; omega)]; cbv
 refine both (fun d2 => ?_) (fun d2 => ?_) <;> rw [d2] <;> cbv
 ·clear hP c1 c2 ho; simp only [F.lt, decide_eq_true_eq] at d2; clear F; rw [← hr, show v2 = -1 by omega]
 exact congrArg some hr
theorem ok320 (x : Ext) (w : x.Mid) {f0 : Fl} (q0 : inFl f0 = true) :
  fix Tb md 320 [sExt x.tag (row fI x.body) f0] = some ⟨[sExt x.tag (row fI x.body) (.ow false)], [], none⟩ := by
 refine fix_fn (fn := ir320) tb_320 rfl rfl (by decide) rfl ?_; simp only [shutArgs, shutS, List.map_cons, List.map_nil, ir320, shut_in q0, List.head?_nil, reduceCtorEq, if_false, sExt, sHello, sAnswer, sEdit, sDeal, sBox, sDialed, sKnown]
 generalize hr : (⟨_, [], none⟩ : Ret) = r
 obtain ⟨e1, he1⟩ := nm (row fI x.body)
 rw [← he1] at hr ⊢
 unfold Ext.Mid at w
 intro add sub mul arith eq ne lt le gt ge neg conv mn mx not beq len at' ln bd cut app allS isNil mks set o hP F ho
 have c1 : o 76 [R e1 (.sp 0 0)] = some ⟨[R e1 (.ow false)], [], none⟩ := by rw [ho, he1]; exact ok76 _ (by have := w; omega) rfl
 cbv
 rw [c1]; cbv
 exact congrArg some hr
theorem ok199 (l : List (Ext)) (w : l.length ≤ 1073741824 ∧ ∀ y ∈ l, y.Mid) {f0 : Fl} (q0 : inFl f0 = true) :
  fix Tb md 199 [R (row fExt l) f0] = some ⟨[R (row fExt l) (.ow false)], [], none⟩ := by
 have w1 := w.1
 refine fix_fn (fn := ir199) tb_199 rfl rfl (by decide) rfl ?_; simp only [shutArgs, shutS, List.map_cons, List.map_nil, ir199, shut_in q0, List.head?_nil, reduceCtorEq, if_false, sExt, sHello, sAnswer, sEdit, sDeal, sBox, sDialed, sKnown]
 generalize hr : (⟨_, [], none⟩ : Ret) = r
 obtain ⟨ea, hea⟩ := nm (row fExt l)
 rw [← hea] at hr ⊢
 intro add sub mul arith eq ne lt le gt ge neg conv mn mx not beq len at' ln bd cut app allS isNil mks set o hP F ho
 have la := F.len_at hea
 cbv
 obtain ⟨e0, he0⟩ := nm (row fExt (List.replicate l.length (⟨0, []⟩ : Ext)))
 rw [show mks [.int .i64 0, .row () []] (len ea) (len ea) = some e0 by rw [F.mks, show len ea = _ from la, he0]; exact row_mk (f := fExt) (a := (⟨0, []⟩ : Ext)) rfl (by simp [fExt]) (show l.length ≤ 1099511627776 by omega)]; cbv
 refine loop_ind hP (σ := List (Ext) × List (Ext) × List (List V) × Int) (fun s => [(0, R ea .sh), (2, R [] .nl), (3, R s.2.2.1 (.ow false)), (4, I s.2.2.2)])
  (fun s => At s.2.2.2 s.2.1.length ∧ l = s.2.1 ++ s.1 ∧ s.2.2.1 = row fExt (s.2.1 ++ List.replicate s.1.length (⟨0, []⟩ : Ext))) (fun s => s.1.length) (l, [], e0, 0) rfl ⟨rfl, rfl, by simpa using he0⟩ ?_
 rintro ⟨suf, pre, eo, i⟩ ⟨hi, hl', heo⟩ ih
 simp only at hi hl' heo ih
 cbv
 cases suf with
 | nil =>
  rw [F.lt_f hi la (by simp [hl'])]; cbv
  rw [← hr, heo, hea, hl']; simp
 | cons x suf =>
  rw [F.lt_t hi la (by simp [hl'])]; cbv
  obtain ⟨e1, he1⟩ := nm (row fI x.body)
  obtain ⟨ix, hix⟩ := nm (pre.length * 2)
  rw [show at' 2 ea i = some (ix, [.int .i64 x.tag, .row () e1]) by rw [hix, he1]; exact F.get hi hea hl' (fun _ => rfl) (by decide)]; cbv
  have c1 : o 320 [sExt x.tag e1 (.sp 0 1)] = some ⟨[sExt x.tag e1 (.ow false)], [], none⟩ := by rw [ho, he1]; exact ok320 x (w.2 x (by rw [hl']; simp)) rfl
  rw [c1]; cbv
  rw [show at' 2 eo i = some (ix, [.int .i64 0, .row () []]) by rw [hix]; exact F.get hi heo rfl (fun _ => rfl) (by decide)]; cbv
  obtain ⟨eo', heo'⟩ := nm (row fExt (pre ++ x :: List.replicate suf.length (⟨0, []⟩ : Ext)))
  rw [show set eo ix [.int .i64 x.tag, .row () e1] = some eo' by rw [F.set, heo, hix, heo', he1]; exact set_all (fun _ => rfl) rfl]; cbv
  refine ih (suf, pre ++ [x], eo', add .i64 i 1) ⟨at_len (F.inc hi (by simp [hl'] at w1; omega)) (by simp), by simp [hl'], by simp [heo']⟩ (by simp)
theorem ok85 (x : Hello) (w : x.Mid) {f0 f1 : Fl} (q0 : inFl f0 = true) (q1 : inFl f1 = true) :
  fix Tb md 85 [sHello (row fI x.versions) (row fExt x.exts) f0 f1] = some ⟨[sHello (row fI x.versions) (row fExt x.exts) (.ow false) (.ow false)], [], none⟩ := by
 refine fix_fn (fn := ir85) tb_85 rfl rfl (by decide) rfl ?_; simp only [shutArgs, shutS, List.map_cons, List.map_nil, ir85, shut_in q0, shut_in q1, List.head?_nil, reduceCtorEq, if_false, sExt, sHello, sAnswer, sEdit, sDeal, sBox, sDialed, sKnown]
 generalize hr : (⟨_, [], none⟩ : Ret) = r
 obtain ⟨e1, he1⟩ := nm (row fI x.versions)
 obtain ⟨e2, he2⟩ := nm (row fExt x.exts)
 rw [← he1, ← he2] at hr ⊢
 unfold Hello.Mid at w
 intro add sub mul arith eq ne lt le gt ge neg conv mn mx not beq len at' ln bd cut app allS isNil mks set o hP F ho
 have c1 : o 76 [R e1 (.sp 0 0)] = some ⟨[R e1 (.ow false)], [], none⟩ := by rw [ho, he1]; exact ok76 _ (by have := w.1; omega) rfl
 have c2 : o 199 [R e2 (.sp 0 0)] = some ⟨[R e2 (.ow false)], [], none⟩ := by rw [ho, he2]; exact ok199 _ w.2 rfl
 cbv
 rw [c1]; cbv
 rw [c2]; cbv
 exact congrArg some hr
theorem ok125 (l : List Int) (k : Int) (hk : Lim k l.length) (hl : l.length ≤ 1099511627776) {f0 : Fl} (h0 : inFl f0 = true) : fix Tb md 125 [R (row fI (mI l k)) f0, I k] = some ⟨[I (k + (l.length : Int))], [], none⟩ := by
 obtain ⟨t, ht⟩ := nm (k + (l.length : Int))
 have hT : AtK t k l.length := ht
 rw [← ht]
 clear ht
 refine fix_fn (fn := ir125) tb_125 rfl rfl (by decide) rfl ?_; simp only [shutArgs, shutS, List.map_cons, List.map_nil, ir125, shut_in h0, List.head?_nil, reduceCtorEq, if_false, sExt, sHello, sAnswer, sEdit, sDeal, sBox, sDialed, sKnown]
 generalize hr : (⟨_, [], none⟩ : Ret) = r
 obtain ⟨ea, hea⟩ := nm (row fI (mI l k))
 rw [← hea]
 intro add sub mul arith eq ne lt le gt ge neg conv mn mx not beq len at' ln bd cut app allS isNil mks set o hP F ho
 have la := F.len_at hea
 cbv
 refine loop_ind hP (σ := List Int × List Int × Int × Int) (fun s => [(0, R ea .sh), (1, I s.2.2.1), (4, I 0), (5, I s.2.2.2)])
  (fun s => At s.2.2.2 s.2.1.length ∧ AtK s.2.2.1 k s.2.1.length ∧ l = s.2.1 ++ s.1) (fun s => s.1.length) (l, [], k, 0) rfl ⟨rfl, AtK.zero, rfl⟩ ?_
 rintro ⟨suf, pre, x, i⟩ ⟨hi, hx, hl'⟩ ih
 simp only at hi hx hl' ih
 cbv
 cases suf with
 | nil =>
  rw [F.lt_f hi la (by rw [mI_len, hl']; simp)]; cbv
  rw [← hr, show x = t by rw [hx.same, hT.same, hl']; simp]
 | cons y suf =>
  have hl3 : pre.length + 1 ≤ l.length := by rw [hl']; simp
  have a1 : add .i64 x 1 = x + 1 := by rw [F.add, hx.inc hk (by omega)]
  have hm : mI l k = mI pre k ++ x :: mI suf (x + 1) := by rw [hl', mI_app pre _ k x hx]; rfl
  rw [F.lt_t hi la (by rw [mI_len, hl']; simp)]; cbv
  obtain ⟨ix, hix⟩ := nm (pre.length * 1)
  rw [show at' 1 ea i = some (ix, [.int .i64 x]) by rw [hix]; have h := F.get (f := fI) (k := 1) (show At i (mI pre k).length by rw [mI_len]; exact hi) hea hm (fun _ => rfl) (by decide); rw [mI_len] at h; exact h]; cbv
  rw [F.ne_f rfl]; cbv
  rw [a1]
  refine ih (suf, pre ++ [y], x + 1, add .i64 i 1) ⟨at_len (F.inc hi (by omega)) (by simp), hx.one.eq (by simp), by simp [hl']⟩ (by simp)
theorem ok88 (x : Deal) (k : Int) (hk : Lim k (nDeal x)) (w : x.Mid) {f0 : Fl} (q0 : inFl f0 = true) : fix Tb md 88 [sDeal x.ok x.version (row fI (wDeal x k).tags) f0, I k] = some ⟨[I (k + (nDeal x : Int))], [], none⟩ := by
 have hn : nDeal x = x.tags.length := rfl
 unfold Deal.Mid at w
 have a0 : AtK k k 0 := AtK.zero
 obtain ⟨z1, hz1⟩ := nm (k + (x.tags.length : Int))
 have a1 : AtK z1 k (0 + x.tags.length) := hz1 ▸ a0.plus
 have m1 : Lim k (x.tags.length) := a0.lim hk (by omega)
 have n1 : 0 ≤ z1 := by have := m1.nn; omega
 rw [show k + (nDeal x : Int) = z1 by rw [a1.same, hn]; simp]
 have x0 : (wDeal x k).tags = mI x.tags k := by simp only [wDeal, hz1]
 rw [x0]
 refine fix_fn (fn := ir88) tb_88 rfl rfl (by decide) rfl ?_; simp only [shutArgs, shutS, List.map_cons, List.map_nil, ir88, shut_in q0, List.head?_nil, reduceCtorEq, if_false, sExt, sHello, sAnswer, sEdit, sDeal, sBox, sDialed, sKnown]
 generalize hr : (⟨_, [], none⟩ : Ret) = r
 obtain ⟨g0, hg0⟩ := nm (row fI (mI x.tags k))
 rw [← hg0]
 intro add sub mul arith eq ne lt le gt ge neg conv mn mx not beq len at' ln bd cut app allS isNil mks set o hP F ho
 have c1 : o 125 [R g0 (.sp 0 0), I k] = some ⟨[I z1], [], none⟩ := by rw [ho, hz1, hg0]; exact ok125 _ _ m1 (Nat.le_trans (w) (by decide)) rfl
 cbv
 rw [c1]; cbv
 rw [show lt z1 0 = false by rw [F.lt]; simp; omega]; cbv
 exact congrArg some hr
end Go.Vm
