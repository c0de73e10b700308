/- What the functions answer. -/
import Derived.Test.YtokkeikhghanpaaGATab
import Derived.Test.YtokkeikhghanpaaGAFA
import Derived.Test.YtokkeikhghanpaaGAFB
import Derived.Test.YtokkeikhghanpaaGAFC
import Derived.Test.YtokkeikhghanpaaGAFE
import Derived.Test.YtokkeikhghanpaaGAFG
import Derived.Test.YtokkeikhghanpaaGAFH
import Derived.Test.YtokkeikhghanpaaGAFK
set_option maxHeartbeats 4000000
set_option maxRecDepth 10000
set_option linter.unusedVariables false
set_option linter.unusedSimpArgs false
namespace Go.Vm
theorem ok308 (l : List Ext) (hl : l.length ≤ 1073741824) (w : ∀ y ∈ l, y.body.length ≤ 1099511627776) {f0 : Fl} (h0 : inFl f0 = true) : fix Tb md 308 [R (row fExt l) f0] = some ⟨[R (row fExt (sel notRes idE l)) (.ow false)], [], none⟩ := by
 obtain ⟨et, het⟩ := nm (row fExt (sel notRes idE l))
 rw [← het]
 generalize hr : (⟨_, [], none⟩ : Ret) = r
 obtain ⟨ea, hea⟩ := nm (row fExt l)
 rw [← hea]
 refine fix_fn2 (fn := ir308) tb_308 rfl rfl (by decide) rfl ?_; intro Q hQ; simp only [shutArgs, shutS, List.map_cons, List.map_nil, ir308, shut_in h0, List.head?_nil, reduceCtorEq, if_false, sExt, sHello, sAnswer, sEdit, sDeal, sBox, sDialed, sKnown]
 intro add sub mul arith eq ne lt le gt ge neg conv mn mx not beq len at' ln bd cut app allS isNil mks set o hP F ho
 have c1 : o 264 [R ea (.sp 0 0), ⟨.val, [⟨.fn 356 [], .sh⟩]⟩] = some ⟨[R et (.ow false)], [], none⟩ := by
  rw [ho, het, hea]
  exact ok264_0 356 rfl (fun n => !resv n) l hl w (fun x _ => ok356 x.tag) rfl
 cbv
 rw [c1]; cbv
 rw [hQ]; cbv
 exact congrArg some hr
theorem ok357 (n : Int) (b : List Int) (hb : b.length ≤ 1099511627776) : fix Tb md 357 [I n, ⟨.val, [⟨.ptr () [.row () (row fI b)], .sh⟩]⟩] = some ⟨[B (hasI b n)], [], none⟩ := by
 obtain ⟨v, hv⟩ := nm (hasI b n)
 rw [← hv]
 generalize hr : (⟨_, [], none⟩ : Ret) = r
 obtain ⟨eb, heb⟩ := nm (row fI b)
 rw [← heb]
 refine fix_fn2 (fn := ir357) tb_357 rfl rfl (by decide) rfl ?_; intro Q hQ; simp only [shutArgs, shutS, List.map_cons, List.map_nil, ir357, List.head?_nil, reduceCtorEq, if_false, sExt, sHello, sAnswer, sEdit, sDeal, sBox, sDialed, sKnown]
 intro add sub mul arith eq ne lt le gt ge neg conv mn mx not beq len at' ln bd cut app allS isNil mks set o hP F ho
 have c1 : o 302 [R eb (.sp 0 0), I n] = some ⟨[B v], [], none⟩ := by rw [ho, hv, heb]; exact ok302 _ _ hb rfl
 cbv
 rw [c1]; cbv
 rw [hQ]; cbv
 exact congrArg some hr
theorem ok309 (l : List Ext) (b : List Int) (hl : l.length ≤ 1073741824) (hb' : b.length ≤ 1073741824) (w : ∀ y ∈ l, y.body.length ≤ 1099511627776) {f0 f1 : Fl} (h0 : inFl f0 = true) (h1 : inFl f1 = true) : fix Tb md 309 [R (row fExt l) f0, R (row fI b) f1] = some ⟨[R (row fExt (sel (tagIn b) idE l)) (.ow false)], [], none⟩ := by
 obtain ⟨et, het⟩ := nm (row fExt (sel (tagIn b) idE l))
 rw [← het]
 generalize hr : (⟨_, [], none⟩ : Ret) = r
 obtain ⟨ea, hea⟩ := nm (row fExt l)
 obtain ⟨eb, heb⟩ := nm (row fI b)
 rw [← hea, ← heb]
 refine fix_fn2 (fn := ir309) tb_309 rfl rfl (by decide) rfl ?_; intro Q hQ; simp only [shutArgs, shutS, List.map_cons, List.map_nil, ir309, shut_in h0, shut_in h1, List.head?_nil, reduceCtorEq, if_false, sExt, sHello, sAnswer, sEdit, sDeal, sBox, sDialed, sKnown]
 intro add sub mul arith eq ne lt le gt ge neg conv mn mx not beq len at' ln bd cut app allS isNil mks set o hP F ho
 have c1 : o 264 [R ea (.sp 0 0), ⟨.val, [⟨.fn 357 [.ptr () [.row () eb]], .sh⟩]⟩] = some ⟨[R et (.ow false)], [], none⟩ := by
  rw [ho, het, hea, heb]
  exact ok264_1 357 rfl _ (fun n => hasI b n) l hl w (fun x _ => ok357 x.tag b (by omega)) rfl
 cbv
 rw [c1]; cbv
 rw [hQ]; cbv
 exact congrArg some hr
theorem ok169r (vs tg : List Int) (h : Hello) (hv : vs.length ≤ 1073741824) (ht : tg.length ≤ 1073741824) (mh : h.Mid) {f0 f1 f2 f3 : Fl} (q0 : inFl f0 = true) (q1 : inFl f1 = true) (q2 : inFl f2 = true) (q3 : inFl f3 = true) (r : Ret)
  (rA' : caOk vs h = true → (⟨[sAnswer (caV vs tg h).version (row fExt (caV vs tg h).exts) (.ow false), B true], [], none⟩ : Ret) = r) (rC' : caOk vs h = false → (⟨[sAnswer 0 [] .nl, B false], [], none⟩ : Ret) = r) :
  fix Tb md 169 [R (row fI vs) f0, R (row fI tg) f1, sHello (row fI h.versions) (row fExt h.exts) f2 f3] = some r := by
 have mh' := mh
 unfold Hello.Mid at mh'
 have hvl := mh'.1
 have hxl := mh'.2.1
 have wh : ∀ y ∈ h.exts, y.body.length ≤ 1099511627776 := fun y hy => Nat.le_trans (show y.body.length ≤ 1073741824 from mh'.2.2 y hy) (by decide)
 obtain ⟨u, hu⟩ := nm (isHel h)
 obtain ⟨n, hn⟩ := nm (bestC vs h.versions)
 obtain ⟨K, hK⟩ := nm (sel (tagIn tg) idE h.exts)
 obtain ⟨Z, hZ⟩ := nm (sel notRes idE K)
 have hKl : K.length ≤ 1073741824 := by rw [hK]; exact Nat.le_trans sel_len hxl
 have wK : ∀ y ∈ K, y.body.length ≤ 1099511627776 := fun y hy => wh y (by rw [hK, sel_idE] at hy; exact (List.mem_filter.1 hy).1)
 have hok : caOk vs h = (u && !decide (n = 0)) := by rw [hu, hn]; rfl
 have rA : u = true → decide (n = 0) = false → (⟨[sAnswer n (row fExt Z) (.ow false), B true], [], none⟩ : Ret) = r := fun q1 q2 => by
  have hk : caOk vs h = true := by rw [hok, q1, q2]; rfl
  rw [← rA' hk, show caV vs tg h = ⟨n, Z⟩ by rw [caV, hk, if_pos rfl, hn, hZ, hK]; rfl]
 have rC : u = false ∨ decide (n = 0) = true → (⟨[sAnswer 0 [] .nl, B false], [], none⟩ : Ret) = r := fun q => rC' (by rcases q with q | q <;> rw [hok, q] <;> simp)
 clear rA' rC' hok
 obtain ⟨ev, hev⟩ := nm (row fI vs)
 obtain ⟨et, het⟩ := nm (row fI tg)
 obtain ⟨dv, hdv⟩ := nm (row fI h.versions)
 obtain ⟨dx, hdx⟩ := nm (row fExt h.exts)
 rw [← hev, ← het, ← hdv, ← hdx]
 obtain ⟨ek, hek⟩ := nm (row fExt K)
 obtain ⟨ez, hez⟩ := nm (row fExt Z)
 rw [← hez] at rA
 refine fix_fn2 (fn := ir169) tb_169 rfl rfl (by decide) rfl ?_; intro Q hQ; simp only [shutArgs, shutS, List.map_cons, List.map_nil, ir169, shut_in q0, shut_in q1, shut_in q2, shut_in q3, List.head?_nil, reduceCtorEq, if_false, sExt, sHello, sAnswer, sEdit, sDeal, sBox, sDialed, sKnown]
 intro add sub mul arith eq ne lt le gt ge neg conv mn mx not beq len at' ln bd cut app allS isNil mks set o hP F ho
 have c1 : o 111 [R ev (.sp 0 0), R dv (.sp 1 0)] = some ⟨[I n], [], none⟩ := by rw [ho, hn, hev, hdv]; exact ok111 _ _ hv hvl rfl rfl
 have c2 : o 113 [sHello dv dx (.sp 0 0) (.sp 0 1)] = some ⟨[B u], [], none⟩ := by rw [ho, hu, hdv, hdx]; exact ok113 _ (by omega) (by omega) wh rfl rfl
 have c3 : o 309 [R dx (.sp 0 0), R et (.sp 1 0)] = some ⟨[R ek (.ow false)], [], none⟩ := by rw [ho, hek, hK, hdx, het]; exact ok309 _ _ hxl ht wh rfl rfl
 have c4 : o 308 [R ek (.sp 0 0)] = some ⟨[R ez (.ow false)], [], none⟩ := by rw [ho, hez, hZ, hek]; exact ok308 _ hKl wK rfl
 have g1 : eq n 0 = decide (n = 0) := F.eq ..
 cbv
 rw [c1]; cbv
 rw [c2]; cbv
 refine both (fun d1 => ?_) (fun d1 => ?_) <;> rw [d1] <;> cbv
 ·rw [hQ]; cbv
  exact congrArg some (rC (.inl (F.not_t d1)))
 refine both (fun d2 => ?_) (fun d2 => ?_) <;> rw [d2] <;> cbv
 ·rw [hQ]; cbv
  exact congrArg some (rC (.inr (by rw [← g1, d2])))
 rw [c3]; cbv
 rw [c4]; cbv
 rw [hQ]; cbv
 exact congrArg some (rA (F.not_f d1) (by rw [← g1, d2]))
theorem ok169a (vs tg : List Int) (h : Hello) (hv : vs.length ≤ 1073741824) (ht : tg.length ≤ 1073741824) (mh : h.Mid) {f0 f1 f2 f3 : Fl} (q0 : inFl f0 = true) (q1 : inFl f1 = true) (q2 : inFl f2 = true) (q3 : inFl f3 = true) (q : caOk vs h = true) :
  fix Tb md 169 [R (row fI vs) f0, R (row fI tg) f1, sHello (row fI h.versions) (row fExt h.exts) f2 f3] = some ⟨[sAnswer (caV vs tg h).version (row fExt (caV vs tg h).exts) (.ow false), B true], [], none⟩ :=
 ok169r vs tg h hv ht mh q0 q1 q2 q3 _ (fun _ => rfl) (fun e => by rw [q] at e; cases e)
theorem ok169b (vs tg : List Int) (h : Hello) (hv : vs.length ≤ 1073741824) (ht : tg.length ≤ 1073741824) (mh : h.Mid) {f0 f1 f2 f3 : Fl} (q0 : inFl f0 = true) (q1 : inFl f1 = true) (q2 : inFl f2 = true) (q3 : inFl f3 = true) (q : caOk vs h = false) :
  fix Tb md 169 [R (row fI vs) f0, R (row fI tg) f1, sHello (row fI h.versions) (row fExt h.exts) f2 f3] = some ⟨[sAnswer 0 [] .nl, B false], [], none⟩ :=
 ok169r vs tg h hv ht mh q0 q1 q2 q3 _ (fun e => by rw [q] at e; cases e) (fun _ => rfl)
theorem ok169 (vs tg : List Int) (h : Hello) (hv : vs.length ≤ 1073741824) (ht : tg.length ≤ 1073741824) (mh : h.Mid) {f0 f1 f2 f3 : Fl} (q0 : inFl f0 = true) (q1 : inFl f1 = true) (q2 : inFl f2 = true) (q3 : inFl f3 = true) :
  fix Tb md 169 [R (row fI vs) f0, R (row fI tg) f1, sHello (row fI h.versions) (row fExt h.exts) f2 f3] = some ⟨[sAnswer (caV vs tg h).version (row fExt (caV vs tg h).exts) (.ow false), B (caOk vs h)], [], none⟩ ∨
  ((caV vs tg h).exts = [] ∧ fix Tb md 169 [R (row fI vs) f0, R (row fI tg) f1, sHello (row fI h.versions) (row fExt h.exts) f2 f3] = some ⟨[sAnswer (caV vs tg h).version [] .nl, B (caOk vs h)], [], none⟩) := by
 cases q : caOk vs h with
 | true => exact .inl (ok169a vs tg h hv ht mh q0 q1 q2 q3 q)
 | false =>
  rw [show caV vs tg h = ⟨0, []⟩ by rw [caV, q]; rfl]
  exact .inr ⟨rfl, ok169b vs tg h hv ht mh q0 q1 q2 q3 q⟩
theorem ok78 (x : Hello) (w : x.Mid) {f0 f1 : Fl} (q0 : inFl f0 = true) (q1 : inFl f1 = true) {g0 g1 : Fl} (p0 : inFl g0 = true) (p1 : inFl g1 = true) :
  fix Tb md 78 [sHello (row fI x.versions) (row fExt x.exts) f0 f1, sHello (row fI x.versions) (row fExt x.exts) g0 g1] = some ⟨[B true], [], none⟩ := by
 refine fix_fn (fn := ir78) tb_78 rfl rfl (by decide) rfl ?_; simp only [shutArgs, shutS, List.map_cons, List.map_nil, ir78, shut_in q0, shut_in q1, shut_in p0, shut_in p1, List.head?_nil, reduceCtorEq, if_false, sExt, sHello, sAnswer, sEdit, sDeal, sBox, sDialed, sKnown]
 generalize hr : (⟨_, [], none⟩ : Ret) = r
 obtain ⟨e1, he1⟩ := nm (row fI x.versions)
 obtain ⟨e2, he2⟩ := nm (row fExt x.exts)
 rw [← he1, ← he2]
 unfold Hello.Mid at w
 intro add sub mul arith eq ne lt le gt ge neg conv mn mx not beq len at' ln bd cut app allS isNil mks set o hP F ho
 have c1 : o 79 [R e1 (.sp 0 0), R e1 (.sp 1 0)] = some ⟨[B true], [], none⟩ := by rw [ho, he1]; exact ok79t _ (by have := w.1; omega) rfl rfl
 have c2 : o 200 [R e2 (.sp 0 0), R e2 (.sp 1 0)] = some ⟨[B true], [], none⟩ := by rw [ho, he2]; exact ok200 _ w.2 rfl rfl
 cbv
 rw [c1]; cbv
 rw [show not true = false by rw [F.not]; rfl]; cbv
 rw [c2]; cbv
 rw [show not true = false by rw [F.not]; rfl]; cbv
 exact congrArg some hr
theorem ok83 (x : Hello) (left : Int) (w : x.Fits) (h1 : 0 ≤ left) (h2 : left ≤ 1048576) {f0 f1 : Fl} (q0 : inFl f0 = true) (q1 : inFl f1 = true) :
  fix Tb md 83 [sHello (row fI x.versions) (row fExt x.exts) f0 f1, I left] = some ⟨[I (szHello x left)], [], none⟩ := by
 refine fix_fn (fn := ir83) tb_83 rfl rfl (by decide) rfl ?_; simp only [shutArgs, shutS, List.map_cons, List.map_nil, ir83, shut_in q0, shut_in q1, List.head?_nil, reduceCtorEq, if_false, sExt, sHello, sAnswer, sEdit, sDeal, sBox, sDialed, sKnown]
 obtain ⟨v1, hv1⟩ := nm (sz1 x.versions.length left)
 obtain ⟨v2, hv2⟩ := nm (szL szExt x.exts v1)
 rw [show szHello x left = v2 by rw [hv2, hv1]; rfl]
 generalize hr : (⟨_, [], none⟩ : Ret) = r
 obtain ⟨e1, he1⟩ := nm (row fI x.versions)
 obtain ⟨e2, he2⟩ := nm (row fExt x.exts)
 rw [← he1, ← he2]
 have g1 : v1 ≤ 1048576 := by rw [hv1]; exact (Sz.of1 x.versions.length).up h2
 have l1 : -1 ≤ v1 := by rw [hv1]; exact (Sz.of1 x.versions.length).lo _ h2
 have g2 : v2 ≤ 1048576 := by rw [hv2]; exact (Sz.list szExt_Sz x.exts).up g1
 have l2 : -1 ≤ v2 := by rw [hv2]; exact (Sz.list szExt_Sz x.exts).lo _ g1
 have n2 : v1 < 0 → v2 = -1 := fun q => by rw [hv2]; exact (Sz.list szExt_Sz x.exts).neg _ q
 unfold Hello.Fits at w
 intro add sub mul arith eq ne lt le gt ge neg conv mn mx not beq len at' ln bd cut app allS isNil mks set o hP F ho
 have c1 : o 227 [R e1 (.sp 0 0), I left] = some ⟨[I v1], [], none⟩ := by rw [ho, hv1, he1]; exact ok227 fI _ _ w.1.1 h1 h2 rfl
 have c2 : 0 ≤ v1 → o 197 [R e2 (.sp 0 0), I v1] = some ⟨[I v2], [], none⟩ := by intro q; rw [ho, hv2, he2]; exact ok197 _ _ w.2 q g1 rfl
 cbv
 rw [c1]; cbv
 refine both (fun d1 => ?_) (fun d1 => ?_) <;> rw [d1] <;> cbv
 ·clear hP c1 c2 ho; simp only [F.lt, decide_eq_true_eq] at d1; clear F; rw [← hr, show v2 = -1 by omega]
 rw [c2 (by simp only [F.lt, decide_eq_false_iff_not] at d1; omega)]; cbv
 refine both (fun d2 => ?_) (fun d2 => ?_) <;> rw [d2] <;> cbv
 ·clear hP c1 c2 ho; simp only [F.lt, decide_eq_true_eq] at d2; clear F; rw [← hr, show v2 = -1 by omega]
 exact congrArg some hr
theorem ok85 (x : Hello) (w : x.Mid) {f0 f1 : Fl} (q0 : inFl f0 = true) (q1 : inFl f1 = true) :
  fix Tb md 85 [sHello (row fI x.versions) (row fExt x.exts) f0 f1] = some ⟨[sHello (row fI x.versions) (row fExt x.exts) (.ow false) (.ow false)], [], none⟩ := by
 refine fix_fn (fn := ir85) tb_85 rfl rfl (by decide) rfl ?_; simp only [shutArgs, shutS, List.map_cons, List.map_nil, ir85, shut_in q0, shut_in q1, List.head?_nil, reduceCtorEq, if_false, sExt, sHello, sAnswer, sEdit, sDeal, sBox, sDialed, sKnown]
 generalize hr : (⟨_, [], none⟩ : Ret) = r
 obtain ⟨e1, he1⟩ := nm (row fI x.versions)
 obtain ⟨e2, he2⟩ := nm (row fExt x.exts)
 rw [← he1, ← he2] at hr ⊢
 unfold Hello.Mid at w
 intro add sub mul arith eq ne lt le gt ge neg conv mn mx not beq len at' ln bd cut app allS isNil mks set o hP F ho
 have c1 : o 76 [R e1 (.sp 0 0)] = some ⟨[R e1 (.ow false)], [], none⟩ := by rw [ho, he1]; exact ok76 _ (by have := w.1; omega) rfl
 have c2 : o 199 [R e2 (.sp 0 0)] = some ⟨[R e2 (.ow false)], [], none⟩ := by rw [ho, he2]; exact ok199 _ w.2 rfl
 cbv
 rw [c1]; cbv
 rw [c2]; cbv
 exact congrArg some hr
theorem ok130 (a b : Hello) (hvv : a.versions.length ≤ 1099511627776) (hl : a.exts.length ≤ 1099511627776) (w : ∀ y ∈ a.exts, y.body.length ≤ 1099511627776) {f0 f1 g0 g1 : Fl} (q0 : inFl f0 = true) (q1 : inFl f1 = true) (p0 : inFl g0 = true) (p1 : inFl g1 = true) :
  fix Tb md 130 [sHello (row fI a.versions) (row fExt a.exts) f0 f1, sHello (row fI b.versions) (row fExt b.exts) g0 g1] = some ⟨[B (decide (a = b))], [], none⟩ := by
 obtain ⟨u, hu⟩ := nm (decide (a.versions = b.versions))
 obtain ⟨v, hv⟩ := nm (decide (a.exts = b.exts))
 rw [show decide (a = b) = (u && v) by rw [hu, hv]; simp only [Hello.eq_iff]; by_cases k1 : a.versions = b.versions <;> by_cases k2 : a.exts = b.exts <;> simp [k1, k2]]
 generalize hr : (⟨_, [], none⟩ : Ret) = r
 obtain ⟨d0, hd0⟩ := nm (row fI a.versions)
 obtain ⟨e0, he0⟩ := nm (row fI b.versions)
 obtain ⟨d1, hd1⟩ := nm (row fExt a.exts)
 obtain ⟨e1, he1⟩ := nm (row fExt b.exts)
 rw [← hd0, ← he0, ← hd1, ← he1]
 refine fix_fn2 (fn := ir130) tb_130 rfl rfl (by decide) rfl ?_; intro Q hQ; simp only [shutArgs, shutS, List.map_cons, List.map_nil, ir130, shut_in q0, shut_in q1, shut_in p0, shut_in p1, List.head?_nil, reduceCtorEq, if_false, sExt, sHello, sAnswer, sEdit, sDeal, sBox, sDialed, sKnown]
 intro add sub mul arith eq ne lt le gt ge neg conv mn mx not beq len at' ln bd cut app allS isNil mks set o hP F ho
 have c1 : o 228 [R d0 (.sp 0 0), R e0 (.sp 1 0)] = some ⟨[B u], [], none⟩ := by rw [ho, hu, hd0, he0]; exact ok228 _ _ hvv rfl rfl
 have c2 : o 272 [R d1 (.sp 0 0), R e1 (.sp 1 0)] = some ⟨[B v], [], none⟩ := by rw [ho, hv, hd1, he1]; exact ok272 _ _ hl w rfl rfl
 cbv
 rw [c1]; cbv
 refine both (fun d1 => ?_) (fun d1 => ?_) <;> rw [d1] <;> cbv
 ·rw [c2]; cbv
  rw [hQ]; cbv
  rw [← hr, d1]; rfl
 ·rw [hQ]; cbv
  rw [← hr, d1]; rfl
theorem ok192 (h : Hello) (path : List Box) (mh : h.Mid) (pl : path.length ≤ 1073741824) (pm : ∀ y ∈ path, y.Mid) {f0 f1 f2 : Fl} (q0 : inFl f0 = true) (q1 : inFl f1 = true) (q2 : inFl f2 = true) : fix Tb md 192 [sHello (row fI h.versions) (row fExt h.exts) f0 f1, R (row fBox path) f2] = some ⟨[B (pw h path)], [], none⟩ := by
 obtain ⟨w, hw⟩ := nm (ppOk path h)
 obtain ⟨v, hv⟩ := nm (decide (ppV path h = h))
 rw [show pw h path = (w && v) by rw [hw, hv]; rfl]
 generalize hr : (⟨_, [], none⟩ : Ret) = r
 have vm : (ppV path h).Mid := ppV_mid mh
 unfold Hello.Mid at vm
 have vm1 : (ppV path h).versions.length ≤ 1099511627776 := by omega
 have vm2 : (ppV path h).exts.length ≤ 1099511627776 := by omega
 have vm3 : ∀ y ∈ (ppV path h).exts, y.body.length ≤ 1099511627776 := fun y hy => Nat.le_trans (show y.body.length ≤ 1073741824 from vm.2.2 y hy) (by decide)
 have hk := ok196 path h pl pm mh (f0 := .sp 0 0) (f1 := .sp 1 0) (f2 := .sp 1 1) rfl rfl rfl
 rw [← hw] at hk
 obtain ⟨ep, hep⟩ := nm (row fBox path)
 obtain ⟨ev, hev⟩ := nm (row fI h.versions)
 obtain ⟨ex, hex⟩ := nm (row fExt h.exts)
 obtain ⟨V1, hV1⟩ := nm (row fI (ppV path h).versions)
 obtain ⟨X1, hX1⟩ := nm (row fExt (ppV path h).exts)
 rw [← hep, ← hev, ← hex, ← hV1, ← hX1] at hk
 rw [← hep, ← hev, ← hex]
 refine fix_fn2 (fn := ir192) tb_192 rfl rfl (by decide) rfl ?_; intro Q hQ; simp only [shutArgs, shutS, List.map_cons, List.map_nil, ir192, shut_in q0, shut_in q1, shut_in q2, List.head?_nil, reduceCtorEq, if_false, sExt, sHello, sAnswer, sEdit, sDeal, sBox, sDialed, sKnown]
 intro add sub mul arith eq ne lt le gt ge neg conv mn mx not beq len at' ln bd cut app allS isNil mks set o hP F ho
 cbv
 rcases hk with hk | ⟨n1, hk⟩ | ⟨n1, n2, hk⟩
 ·have c3 : o 196 [R ep (.sp 0 0), sHello ev ex (.sp 1 0) (.sp 1 1)] = some ⟨[sHello V1 X1 (.ow false) (.ow false), B w], [], none⟩ := by rw [ho]; exact hk
  have c4 : o 130 [sHello V1 X1 (.sp 0 0) (.sp 0 1), sHello ev ex (.sp 1 0) (.sp 1 1)] = some ⟨[B v], [], none⟩ := by
   have h9 := ok130 (ppV path h) h vm1 vm2 vm3 (f0 := .sp 0 0) (f1 := .sp 0 1) (g0 := .sp 1 0) (g1 := .sp 1 1) rfl rfl rfl rfl
   rw [← hV1, ← hX1, ← hv, ← hev, ← hex] at h9
   rw [ho]; exact h9
  rw [c3]; cbv
  refine both (fun d => ?_) (fun d => ?_) <;> rw [d] <;> cbv
  ·rw [c4]; cbv
   rw [hQ]; cbv
   rw [← hr, d]; rfl
  ·rw [hQ]; cbv
   rw [← hr, d]; rfl
 ·have c3 : o 196 [R ep (.sp 0 0), sHello ev ex (.sp 1 0) (.sp 1 1)] = some ⟨[sHello V1 [] (.ow false) (.nl), B w], [], none⟩ := by rw [ho]; exact hk
  have c4 : o 130 [sHello V1 [] (.sp 0 0) (.nl), sHello ev ex (.sp 1 0) (.sp 1 1)] = some ⟨[B v], [], none⟩ := by
   have h9 := ok130 (ppV path h) h vm1 vm2 vm3 (f0 := .sp 0 0) (f1 := .nl) (g0 := .sp 1 0) (g1 := .sp 1 1) rfl rfl rfl rfl
   rw [← hV1, n1, show row fExt ([] : List Ext) = [] from rfl, ← hv, ← hev, ← hex] at h9
   rw [ho]; exact h9
  rw [c3]; cbv
  refine both (fun d => ?_) (fun d => ?_) <;> rw [d] <;> cbv
  ·rw [c4]; cbv
   rw [hQ]; cbv
   rw [← hr, d]; rfl
  ·rw [hQ]; cbv
   rw [← hr, d]; rfl
 ·have c3 : o 196 [R ep (.sp 0 0), sHello ev ex (.sp 1 0) (.sp 1 1)] = some ⟨[sHello [] [] (.nl) (.nl), B w], [], none⟩ := by rw [ho]; exact hk
  have c4 : o 130 [sHello [] [] (.nl) (.nl), sHello ev ex (.sp 1 0) (.sp 1 1)] = some ⟨[B v], [], none⟩ := by
   have h9 := ok130 (ppV path h) h vm1 vm2 vm3 (f0 := .nl) (f1 := .nl) (g0 := .sp 1 0) (g1 := .sp 1 1) rfl rfl rfl rfl
   rw [n1, n2, show row fI ([] : List Int) = [] from rfl, show row fExt ([] : List Ext) = [] from rfl, ← hv, ← hev, ← hex] at h9
   rw [ho]; exact h9
  rw [c3]; cbv
  refine both (fun d => ?_) (fun d => ?_) <;> rw [d] <;> cbv
  ·rw [c4]; cbv
   rw [hQ]; cbv
   rw [← hr, d]; rfl
  ·rw [hQ]; cbv
   rw [← hr, d]; rfl
end Go.Vm
