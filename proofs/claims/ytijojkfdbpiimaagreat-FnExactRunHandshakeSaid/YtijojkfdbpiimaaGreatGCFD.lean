/- What the functions answer. -/
import Derived.Test.YtijojkfdbpiimaaGreatGCTab
import Derived.Test.YtijojkfdbpiimaaGreatGCFA
import Derived.Test.YtijojkfdbpiimaaGreatGCFB
import Derived.Test.YtijojkfdbpiimaaGreatGCFC
set_option maxHeartbeats 4000000
set_option maxRecDepth 10000
set_option linter.unusedVariables false
set_option linter.unusedSimpArgs false
namespace Go.Vm
def hcons (h : Int) (b : List Int) : Int := hashV (h :: (b.length : Int) :: b)
def thash (l : List (List Int)) : Int := if isTr l = true then l.foldl hcons 1 else 0
theorem ok120 (l : List (List Int)) (w : l.length ≤ 1048576 ∧ ∀ y ∈ l, y.length ≤ 1048576) {f0 : Fl} (h0 : inFl f0 = true) : fix Tb md 120 [R (row fR l) f0] = some ⟨[I (thash l)], [], none⟩ := by
 have w1 := w.1
 obtain ⟨T, hT⟩ := nm (thash l)
 rw [← hT]
 generalize hr : (⟨_, [], none⟩ : Ret) = r
 obtain ⟨ea, hea⟩ := nm (row fR l)
 rw [← hea]
 obtain ⟨u, hu⟩ := nm (isTr l)
 refine fix_fn2 (fn := ir120) tb_120 rfl rfl (by decide) rfl ?_; intro Q hQ; simp only [shutArgs, shutS, List.map_cons, List.map_nil, ir120, shut_in h0, List.head?_nil, reduceCtorEq, if_false, sExt, sHello, sAnswer, sEdit, sDeal, sBox, sDialed, sKnown]
 intro add sub mul arith eq ne lt le gt ge neg conv mn mx not beq len at' ln bd cut app allS isNil mks set o hP F ho
 have la := F.len_at hea
 have c1 : o 71 [R ea (.sp 0 0)] = some ⟨[B u], [], none⟩ := by rw [ho, hu, hea]; exact ok71 _ w rfl
 cbv
 rw [c1]; cbv
 refine both (fun d1 => ?_) (fun d1 => ?_) <;> rw [d1] <;> cbv
 ·rw [hQ]; cbv
  rw [← hr, hT]; unfold thash; rw [← hu, F.not_t d1]; rfl
 have hT' : T = l.foldl hcons 1 := by rw [hT]; unfold thash; rw [← hu, F.not_f d1]; rfl
 refine loop_ind2 hP (σ := List (List Int) × List (List Int) × Int × Int) (fun s => [(0, R ea .sh), (2, I 0), (3, I s.2.2.1), (4, I s.2.2.2)]) (fun s => At s.2.2.2 s.2.1.length ∧ l = s.2.1 ++ s.1 ∧ s.1.foldl hcons s.2.2.1 = T) (fun s => s.1.length) (l, [], 1, 0) rfl ⟨rfl, rfl, hT'.symm⟩ ?_
 intro c1 Q1 hc1 hQ1
 rintro ⟨suf, pre, d, i⟩ ⟨hi, hl', hb⟩ ih
 simp only at hi hl' hb ih
 cbv
 cases suf with
 | nil =>
  rw [F.lt_f hi la (by simp [hl'])]; cbv
  rw [hQ1]; cbv
  rw [hQ]; cbv
  rw [← hr, ← hb]; rfl
 | cons x suf =>
  have hx := w.2 x (by rw [hl']; simp)
  rw [List.foldl_cons] at hb
  obtain ⟨nx, hnx⟩ := nm ((x.length : Int))
  have hc : hcons d x = hashV (d :: nx :: x) := by rw [hnx]; rfl
  rw [F.lt_t hi la (by simp [hl'])]; cbv
  obtain ⟨ix, hix⟩ := nm (pre.length * 1)
  obtain ⟨e1, he1⟩ := nm (row fI x)
  have l1 : len e1 = nx := by rw [hnx]; exact F.len_at he1
  have p0 : at' 1 ea i = some (ix, [.row () e1]) := by rw [hix, he1]; exact F.get hi hea hl' (fun _ => rfl) (by decide)
  rw [p0]; cbv
  rw [l1]; cbv
  try (rw [p0]; cbv)
  try (rw [show allS e1 = true from F.scal he1 (fun _ => rfl)]; cbv)
  obtain ⟨e2, he2⟩ := nm (row fI (d :: nx :: x))
  rw [show app 1 [[.int .i64 d], [.int .i64 nx]] e1 = some e2 by rw [F.app' (f := fI) (e1 := [[.int .i64 d], [.int .i64 nx]]) (l1 := [d, nx]) rfl he1 (fun _ => rfl) (by simp; omega), he2]; rfl]; cbv
  obtain ⟨d', hd'⟩ := nm (hcons d x)
  rw [show o 268 [R e2 (.sp 0 0)] = some ⟨[I d'], [], none⟩ by rw [ho, hd', hc, he2]; exact ok268 _ (by simp; omega) rfl]; cbv
  rw [← hd'] at hb
  refine ih (suf, pre ++ [x], d', add .i64 i 1) ⟨at_len (F.inc hi (by simp [hl'] at w1; omega)) (by simp), by simp [hl'], hb⟩ (by simp)
def vKey (k : Int) : Bool := inR k 1 2147483646
theorem ok282 (k : Int) : fix Tb md 282 [I k] = some ⟨[B (vKey k)], [], none⟩ := by
 obtain ⟨a, ha⟩ := nm (vKey k)
 rw [← ha]
 generalize hr : (⟨_, [], none⟩ : Ret) = r
 refine fix_fn2 (fn := ir282) tb_282 rfl rfl (by decide) rfl ?_; intro Q hQ; simp only [shutArgs, shutS, List.map_cons, List.map_nil, ir282, List.head?_nil, reduceCtorEq, if_false, sExt, sHello, sAnswer, sEdit, sDeal, sBox, sDialed, sKnown]
 intro add sub mul arith eq ne lt le gt ge neg conv mn mx not beq len at' ln bd cut app allS isNil mks set o hP F ho
 have c1 : o 230 [I k, I 1, I 2147483646] = some ⟨[B a], [], none⟩ := by rw [ho, ha]; exact ok230 ..
 cbv
 rw [c1]; cbv
 rw [hQ]; cbv
 exact congrArg some hr
def khash (k : Int) (l : List Int) : Int := hashV (k :: l ++ [k])
theorem ok283 (k : Int) (l : List Int) (hl : l.length ≤ 1073741824) {f0 : Fl} (q0 : inFl f0 = true) : fix Tb md 283 [I k, R (row fI l) f0] = some ⟨[I (khash k l)], [], none⟩ := by
 obtain ⟨T, hT⟩ := nm (khash k l)
 rw [← hT]
 generalize hr : (⟨_, [], none⟩ : Ret) = r
 obtain ⟨ea, hea⟩ := nm (row fI l)
 rw [← hea]
 obtain ⟨e1, he1⟩ := nm (row fI (k :: l))
 obtain ⟨e2, he2⟩ := nm (row fI (k :: l ++ [k]))
 refine fix_fn2 (fn := ir283) tb_283 rfl rfl (by decide) rfl ?_; intro Q hQ; simp only [shutArgs, shutS, List.map_cons, List.map_nil, ir283, shut_in q0, List.head?_nil, reduceCtorEq, if_false, sExt, sHello, sAnswer, sEdit, sDeal, sBox, sDialed, sKnown]
 intro add sub mul arith eq ne lt le gt ge neg conv mn mx not beq len at' ln bd cut app allS isNil mks set o hP F ho
 have p1 : app 1 [[.int .i64 k]] ea = some e1 := by rw [he1]; exact F.app' (f := fI) (k := 1) (e1 := [[.int .i64 k]]) (l1 := [k]) rfl hea (fun _ => rfl) (by simp; omega)
 have p2 : app 1 e1 [[.int .i64 k]] = some e2 := by rw [he2]; exact F.app' (f := fI) (k := 1) (e2 := [[.int .i64 k]]) (l2 := [k]) he1 rfl (fun _ => rfl) (by simp; omega)
 have p3 : allS ea = true := F.scal hea (fun _ => rfl)
 have p4 : allS [[.int .i64 k]] = true := by rw [F.allS]; rfl
 have c1 : o 268 [R e2 (.sp 0 0)] = some ⟨[I T], [], none⟩ := by rw [ho, he2, hT]; exact ok268 _ (by simp; omega) rfl
 cbv
 rw [p3]; cbv
 rw [p1]; cbv
 rw [p4]; cbv
 rw [p2]; cbv
 rw [c1]; cbv
 rw [hQ]; cbv
 exact congrArg some hr
def finV (k : Int) (l : List (List Int)) (s : Int) : Int := if vKey k && isTr l && inR s 0 1 then khash k [s, thash l] else 0
def chkV (k : Int) (l : List (List Int)) (s f : Int) : Bool := !decide (f = 0) && decide (finV k l s = f)
theorem ok143 (k : Int) (l : List (List Int)) (s : Int) (w : l.length ≤ 1048576 ∧ ∀ y ∈ l, y.length ≤ 1048576) {f0 : Fl} (q0 : inFl f0 = true) : fix Tb md 143 [I k, R (row fR l) f0, I s] = some ⟨[I (finV k l s)], [], none⟩ := by
 obtain ⟨a, ha⟩ := nm (vKey k)
 obtain ⟨b, hb⟩ := nm (isTr l)
 obtain ⟨c, hc⟩ := nm (inR s 0 1)
 obtain ⟨n, hn⟩ := nm (thash l)
 obtain ⟨m, hm⟩ := nm (khash k [s, n])
 rw [show finV k l s = if a && b && c then m else 0 by rw [ha, hb, hc, hm, hn]; rfl]
 generalize hr : (⟨_, [], none⟩ : Ret) = r
 obtain ⟨el, hel⟩ := nm (row fR l)
 rw [← hel]
 refine fix_fn2 (fn := ir143) tb_143 rfl rfl (by decide) rfl ?_; intro Q hQ; simp only [shutArgs, shutS, List.map_cons, List.map_nil, ir143, shut_in q0, List.head?_nil, reduceCtorEq, if_false, sExt, sHello, sAnswer, sEdit, sDeal, sBox, sDialed, sKnown]
 intro add sub mul arith eq ne lt le gt ge neg conv mn mx not beq len at' ln bd cut app allS isNil mks set o hP F ho
 have c1 : o 282 [I k] = some ⟨[B a], [], none⟩ := by rw [ho, ha]; exact ok282 ..
 have c2 : o 71 [R el (.sp 0 0)] = some ⟨[B b], [], none⟩ := by rw [ho, hb, hel]; exact ok71 _ w rfl
 have c3 : o 230 [I s, I 0, I 1] = some ⟨[B c], [], none⟩ := by rw [ho, hc]; exact ok230 ..
 have c4 : o 120 [R el (.sp 0 0)] = some ⟨[I n], [], none⟩ := by rw [ho, hn, hel]; exact ok120 _ w rfl
 have c5 : o 283 [I k, R [[.int .i64 s], [.int .i64 n]] (.sp 1 0)] = some ⟨[I m], [], none⟩ := by rw [ho, hm]; exact ok283 k [s, n] (by simp) rfl
 cbv
 rw [c1]; cbv
 refine both (fun d1 => ?_) (fun d1 => ?_) <;> rw [d1] <;> cbv
 ·rw [hQ]; cbv
  rw [← hr, F.not_t d1]; rfl
 rw [c2]; cbv
 refine both (fun d2 => ?_) (fun d2 => ?_) <;> rw [d2] <;> cbv
 ·rw [hQ]; cbv
  rw [← hr, F.not_f d1, F.not_t d2]; rfl
 rw [c3]; cbv
 refine both (fun d3 => ?_) (fun d3 => ?_) <;> rw [d3] <;> cbv
 ·rw [hQ]; cbv
  rw [← hr, F.not_f d1, F.not_f d2, F.not_t d3]; rfl
 rw [c4]; cbv
 rw [c5]; cbv
 rw [hQ]; cbv
 rw [← hr, F.not_f d1, F.not_f d2, F.not_f d3]; rfl
def isAns (v : Int) (l : List Ext) : Bool := inR v 1 9 && areEx l
theorem ok127 (v : Int) (l : List Ext) (hl : l.length ≤ 1099511627776) (w : ∀ y ∈ l, y.body.length ≤ 1099511627776) {f0 : Fl} (h0 : inFl f0 = true) : fix Tb md 127 [sAnswer v (row fExt l) f0] = some ⟨[B (isAns v l)], [], none⟩ := by
 obtain ⟨a, ha⟩ := nm (inR v 1 9)
 obtain ⟨b, hb⟩ := nm (areEx l)
 rw [show isAns v l = (a && b) by rw [ha, hb]; rfl]
 generalize hr : (⟨_, [], none⟩ : Ret) = r
 obtain ⟨ea, hea⟩ := nm (row fExt l)
 rw [← hea]
 refine fix_fn2 (fn := ir127) tb_127 rfl rfl (by decide) rfl ?_; intro Q hQ; simp only [shutArgs, shutS, List.map_cons, List.map_nil, ir127, shut_in h0, List.head?_nil, reduceCtorEq, if_false, sExt, sHello, sAnswer, sEdit, sDeal, sBox, sDialed, sKnown]
 intro add sub mul arith eq ne lt le gt ge neg conv mn mx not beq len at' ln bd cut app allS isNil mks set o hP F ho
 have c1 : o 230 [I v, I 1, I 9] = some ⟨[B a], [], none⟩ := by rw [ho, ha]; exact ok230 ..
 have c2 : o 271 [R ea (.sp 0 0)] = some ⟨[B b], [], none⟩ := by rw [ho, hb, hea]; exact ok271 _ hl w rfl
 cbv
 rw [c1]; cbv
 refine both (fun d1 => ?_) (fun d1 => ?_) <;> rw [d1] <;> cbv
 ·rw [c2]; cbv
  rw [hQ]; cbv
  rw [← hr, d1]; rfl
 ·rw [hQ]; cbv
  rw [← hr, d1]; rfl
def exI (e : Ext) : List Int := e.tag :: (e.body.length : Int) :: e.body
def encX (l : List Ext) : List Int := (l.length : Int) :: l.flatMap exI
theorem exOk_all : ∀ {suf pre : List Ext}, exOk pre suf = true → ∀ y ∈ suf, y.body.length ≤ 4 ∧ inR y.tag 0 255 = true ∧ bytes y.body = true
 | [], _, _, y, hy => by simp at hy
 | x :: suf, pre, h, y, hy => by
  simp only [exOk, Bool.and_eq_true] at h
  obtain ⟨⟨⟨⟨h1, h2⟩, h3⟩, h4⟩, h5⟩ := h
  rcases List.mem_cons.1 hy with rfl | hy
  ·refine ⟨?_, h1, h3⟩
   simp at h2; omega
  ·exact exOk_all h5 y hy
theorem areEx_all {l : List Ext} (h : areEx l = true) : l.length ≤ 6 ∧ ∀ y ∈ l, y.body.length ≤ 4 ∧ inR y.tag 0 255 = true ∧ bytes y.body = true := by
 simp only [areEx, Bool.and_eq_true, decide_eq_true_eq] at h
 exact ⟨h.2, exOk_all h.1⟩
theorem exI_len : ∀ {l : List Ext}, (∀ y ∈ l, y.body.length ≤ 4) → (l.flatMap exI).length ≤ 6 * l.length
 | [], _ => by simp
 | x :: l, h => by
  have h1 := h x (by simp)
  have h2 := exI_len (l := l) (fun y hy => h y (by simp [hy]))
  rw [List.flatMap_cons, List.length_append, List.length_cons]
  simp only [exI, List.length_cons]
  omega
theorem encX_len {l : List Ext} (h : areEx l = true) : (encX l).length ≤ 37 := by
 obtain ⟨h1, h2⟩ := areEx_all h
 have := exI_len (fun y hy => (h2 y hy).1)
 simp only [encX, List.length_cons]
 omega
theorem ok293 (l : List Ext) (hok : areEx l = true) {f0 : Fl} (h0 : inFl f0 = true) : fix Tb md 293 [R (row fExt l) f0] = some ⟨[R (row fI (encX l)) (.ow false), B true], [], none⟩ := by
 obtain ⟨hl, hw⟩ := areEx_all hok
 obtain ⟨et, het⟩ := nm (row fI (encX l))
 rw [← het]
 generalize hr : (⟨_, [], none⟩ : Ret) = r
 obtain ⟨ea, hea⟩ := nm (row fExt l)
 rw [← hea]
 obtain ⟨nl, hnl⟩ := nm ((l.length : Int))
 obtain ⟨e0, he0⟩ := nm (row fI [nl])
 have hen : encX l = nl :: l.flatMap exI := by rw [hnl]; rfl
 refine fix_fn2 (fn := ir293) tb_293 rfl rfl (by decide) rfl ?_; intro Q hQ; simp only [shutArgs, shutS, List.map_cons, List.map_nil, ir293, shut_in h0, List.head?_nil, reduceCtorEq, if_false, sExt, sHello, sAnswer, sEdit, sDeal, sBox, sDialed, sKnown]
 intro add sub mul arith eq ne lt le gt ge neg conv mn mx not beq len at' ln bd cut app allS isNil mks set o hP F ho
 have la := F.len_at hea
 have lna : len ea = nl := by rw [hnl]; exact la
 have la' : At nl l.length := hnl
 have c1 : o 271 [R ea (.sp 0 0)] = some ⟨[B true], [], none⟩ := by rw [ho, hea, ← hok]; exact ok271 _ (by omega) (fun y hy => by have := (hw y hy).1; omega) rfl
 cbv
 rw [c1]; cbv
 rw [show not true = false by rw [F.not]; rfl]; cbv
 rw [lna]
 refine loop_ind2 hP (σ := List Ext × List Ext × List (List V) × Int) (fun s => [(0, R ea .sh), (2, R [] .nl), (3, B false), (4, R s.2.2.1 (.ow false)), (5, I s.2.2.2)]) (fun s => At s.2.2.2 s.2.1.length ∧ l = s.2.1 ++ s.1 ∧ s.2.2.1 = row fI (nl :: s.2.1.flatMap exI)) (fun s => s.1.length) (l, [], [[.int .i64 nl]], 0) rfl ⟨rfl, rfl, rfl⟩ ?_
 intro c1 Q1 hc1 hQ1
 rintro ⟨suf, pre, eo, i⟩ ⟨hi, hl', hb⟩ ih
 simp only at hi hl' hb ih
 have hpre : pre.length ≤ 6 := by rw [hl'] at hl; simp at hl; omega
 have hfl : (pre.flatMap exI).length ≤ 36 := by have := exI_len (l := pre) (fun y hy => (hw y (by rw [hl']; simp [hy])).1); omega
 cbv
 cases suf with
 | nil =>
  rw [F.lt_f hi la (by simp [hl'])]; cbv
  rw [hQ1]; cbv
  rw [hQ]; cbv
  rw [← hr, het, hb, hen, hl', List.append_nil]
 | cons x suf =>
  obtain ⟨ix, hix⟩ := nm (pre.length * 2)
  obtain ⟨e1, he1⟩ := nm (row fI x.body)
  obtain ⟨nb, hnb⟩ := nm ((x.body.length : Int))
  have hx := (hw x (by rw [hl']; simp)).1
  have hxi : exI x = x.tag :: nb :: x.body := by rw [hnb]; rfl
  have p0 : at' 2 ea i = some (ix, [.int .i64 x.tag, .row () e1]) := by rw [hix, he1]; exact F.get hi hea hl' (fun _ => rfl) (by decide)
  have l1 : len e1 = nb := by rw [hnb]; exact F.len_at he1
  obtain ⟨eo1, heo1⟩ := nm (row fI (nl :: pre.flatMap exI ++ [x.tag, nb]))
  obtain ⟨eo2, heo2⟩ := nm (row fI (nl :: (pre ++ [x]).flatMap exI))
  have q1 : app 1 eo [[.int .i64 x.tag], [.int .i64 nb]] = some eo1 := by
   have h := F.app' (f := fI) (k := 1) (e2 := [[.int .i64 x.tag], [.int .i64 nb]]) (l2 := [x.tag, nb]) hb rfl (fun _ => rfl) (by simp only [List.length_cons, List.length_append, List.length_nil]; omega)
   rw [h, heo1]
  have q2 : app 1 eo1 e1 = some eo2 := by
   have h := F.app' (f := fI) (k := 1) heo1 he1 (fun _ => rfl) (by simp only [List.length_cons, List.length_append, List.length_nil]; omega)
   rw [h, heo2, List.flatMap_append, List.flatMap_cons, hxi]; simp
  have q3 : allS [[.int .i64 x.tag], [.int .i64 nb]] = true := by rw [F.allS]; rfl
  have q4 : allS e1 = true := F.scal he1 (fun _ => rfl)
  rw [F.lt_t hi la (by simp [hl'])]; cbv
  rw [p0]; cbv
  repeat' (first | (rw [p0]; cbv) | (rw [l1]; cbv) | (rw [q1]; cbv) | (rw [q2]; cbv) | (rw [q3]; cbv) | (rw [q4]; cbv))
  refine ih (suf, pre ++ [x], eo2, add .i64 i 1) ⟨at_len (F.inc hi (by omega)) (by simp), by simp [hl'], heo2⟩ (by simp)
def ansB (a : Answer) : List Int := if isAns a.version a.exts = true then a.version :: encX a.exts else []
theorem ok151 (a : Answer) (hl : a.exts.length ≤ 1099511627776) (w : ∀ y ∈ a.exts, y.body.length ≤ 1099511627776) {f0 : Fl} (h0 : inFl f0 = true) : fix Tb md 151 [sAnswer a.version (row fExt a.exts) f0] = some ⟨[R (row fI (ansB a)) (.ow false)], [], none⟩ := by
 obtain ⟨u, hu⟩ := nm (isAns a.version a.exts)
 cases hu2 : u with
 | true =>
  rw [hu2] at hu
  have hok : areEx a.exts = true := by unfold isAns at hu; cases h : areEx a.exts with | true => rfl | false => rw [h, Bool.and_false] at hu; exact Bool.noConfusion hu
  obtain ⟨et, het⟩ := nm (row fI (ansB a))
  rw [← het]
  generalize hr : (⟨_, [], none⟩ : Ret) = r
  obtain ⟨ea, hea⟩ := nm (row fExt a.exts)
  rw [← hea]
  obtain ⟨ex, hex⟩ := nm (row fI (encX a.exts))
  have hlen := encX_len hok
  refine fix_fn2 (fn := ir151) tb_151 rfl rfl (by decide) rfl ?_; intro Q hQ; simp only [shutArgs, shutS, List.map_cons, List.map_nil, ir151, shut_in h0, List.head?_nil, reduceCtorEq, if_false, sExt, sHello, sAnswer, sEdit, sDeal, sBox, sDialed, sKnown]
  intro add sub mul arith eq ne lt le gt ge neg conv mn mx not beq len at' ln bd cut app allS isNil mks set o hP F ho
  have c1 : o 127 [sAnswer a.version ea (.sp 0 1)] = some ⟨[B true], [], none⟩ := by rw [ho, hu, hea]; exact ok127 _ _ hl w rfl
  have c2 : o 293 [R ea (.sp 0 0)] = some ⟨[R ex (.ow false), B true], [], none⟩ := by rw [ho, hea, hex]; exact ok293 _ hok rfl
  have q1 : app 1 [[.int .i64 a.version]] ex = some et := by
   have h := F.app' (f := fI) (k := 1) (e1 := [[.int .i64 a.version]]) (l1 := [a.version]) rfl hex (fun _ => rfl) (by simp; omega)
   rw [h, het, ansB, ← hu, if_pos rfl]; rfl
  have q2 : allS ex = true := F.scal hex (fun _ => rfl)
  cbv
  rw [c1]; cbv
  rw [show not true = false by rw [F.not]; rfl]; cbv
  rw [c2]; cbv
  rw [q2]; cbv
  rw [q1]; cbv
  rw [hQ]; cbv
  exact congrArg some hr
 | false =>
  rw [hu2] at hu
  rw [show ansB a = [] by rw [ansB, ← hu]; rfl]
  generalize hr : (⟨_, [], none⟩ : Ret) = r
  obtain ⟨ea, hea⟩ := nm (row fExt a.exts)
  rw [← hea]
  refine fix_fn2 (fn := ir151) tb_151 rfl rfl (by decide) rfl ?_; intro Q hQ; simp only [shutArgs, shutS, List.map_cons, List.map_nil, ir151, shut_in h0, List.head?_nil, reduceCtorEq, if_false, sExt, sHello, sAnswer, sEdit, sDeal, sBox, sDialed, sKnown]
  intro add sub mul arith eq ne lt le gt ge neg conv mn mx not beq len at' ln bd cut app allS isNil mks set o hP F ho
  have c1 : o 127 [sAnswer a.version ea (.sp 0 1)] = some ⟨[B false], [], none⟩ := by rw [ho, hu, hea]; exact ok127 _ _ hl w rfl
  cbv
  rw [c1]; cbv
  rw [show not false = true by rw [F.not]; rfl]; cbv
  rw [hQ]; cbv
  exact congrArg some hr
theorem ansB_len (a : Answer) : (ansB a).length ≤ 38 := by
 unfold ansB
 split
 ·rename_i h
  have hok : areEx a.exts = true := by unfold isAns at h; simp at h; exact h.2
  have := encX_len hok
  rw [List.length_cons]; omega
 ·simp
def tagIn (b : List Int) (e : Ext) : Bool := hasI b e.tag
theorem ok307 (l : List Ext) (b : List Int) (hl : l.length ≤ 1073741824) (hb' : b.length ≤ 1073741824) (w : ∀ y ∈ l, y.body.length ≤ 1099511627776) {f0 f1 : Fl} (h0 : inFl f0 = true) (h1 : inFl f1 = true) : fix Tb md 307 [R (row fExt l) f0, R (row fI b) f1] = some ⟨[R (row fExt (sel (tagIn b) idE l)) (.ow false)], [], none⟩ := by
 obtain ⟨et, het⟩ := nm (row fExt (sel (tagIn b) idE l))
 rw [← het]
 generalize hr : (⟨_, [], none⟩ : Ret) = r
 obtain ⟨ea, hea⟩ := nm (row fExt l)
 obtain ⟨eb, heb⟩ := nm (row fI b)
 rw [← hea, ← heb]
 refine fix_fn2 (fn := ir307) tb_307 rfl rfl (by decide) rfl ?_; intro Q hQ; simp only [shutArgs, shutS, List.map_cons, List.map_nil, ir307, shut_in h0, shut_in h1, List.head?_nil, reduceCtorEq, if_false, sExt, sHello, sAnswer, sEdit, sDeal, sBox, sDialed, sKnown]
 intro add sub mul arith eq ne lt le gt ge neg conv mn mx not beq len at' ln bd cut app allS isNil mks set o hP F ho
 have la := F.len_at hea
 cbv
 refine loop_ind2 hP (σ := List Ext × List Ext × List (List V) × Int) (fun s => [(0, R ea .sh), (1, R eb .sh), (4, R [] .nl), (5, R s.2.2.1 (.ow false)), (6, I s.2.2.2)]) (fun s => At s.2.2.2 s.2.1.length ∧ l = s.2.1 ++ s.1 ∧ s.2.2.1 = row fExt (sel (tagIn b) idE s.2.1)) (fun s => s.1.length) (l, [], [], 0) rfl ⟨rfl, rfl, rfl⟩ ?_
 intro c1 Q1 hc1 hQ1
 rintro ⟨suf, pre, eo, i⟩ ⟨hi, hl', hb⟩ ih
 simp only at hi hl' hb ih
 cbv
 cases suf with
 | nil =>
  rw [F.lt_f hi la (by simp [hl'])]; cbv
  rw [hQ1]; cbv
  rw [hQ]; cbv
  rw [← hr, het, hb, hl', List.append_nil]
 | cons x suf =>
  obtain ⟨ix, hix⟩ := nm (pre.length * 2)
  have hpre : pre.length ≤ 1073741824 := by rw [hl'] at hl; simp at hl; omega
  have hs : (sel (tagIn b) idE pre).length ≤ pre.length := sel_len
  have hi' : At (add .i64 i 1) (pre ++ [x]).length := at_len (F.inc hi (by omega)) (by simp)
  have hl2 : l = (pre ++ [x]) ++ suf := by rw [hl']; simp
  have hmem : x ∈ l := by rw [hl']; simp
  obtain ⟨e1, he1⟩ := nm (row fI x.body)
  have hx := w x hmem
  have p0 : at' 2 ea i = some (ix, [.int .i64 x.tag, .row () e1]) := by rw [hix, he1]; exact F.get hi hea hl' (fun _ => rfl) (by decide)
  obtain ⟨v, hv⟩ := nm (tagIn b x)
  have c2 : o 285 [R eb (.sp 0 0), I x.tag] = some ⟨[B v], [], none⟩ := by rw [ho, hv, heb]; exact ok285 _ _ (by omega) rfl
  rw [F.lt_t hi la (by simp [hl'])]; cbv
  rw [p0]; cbv
  rw [c2]; cbv
  refine both (fun d => ?_) (fun d => ?_) <;> rw [d] <;> cbv
  ·rw [p0]; cbv
   rw [p0]; cbv
   rw [show allS e1 = true from F.scal he1 (fun _ => rfl)]; cbv
   rw [F.app_nil he1 (fun _ => rfl) hx]; cbv
   rw [show allS [[.int .i64 x.tag, .row () e1]] = false by rw [F.allS]; rfl]; cbv
   obtain ⟨eo', heo'⟩ := nm (row fExt (sel (tagIn b) idE pre ++ [idE x]))
   rw [show app 2 eo [[.int .i64 x.tag, .row () e1]] = some eo' by rw [heo', he1]; exact F.push hb (fun _ => rfl) rfl (by omega)]; cbv
   refine ih (suf, pre ++ [x], eo', add .i64 i 1) ⟨hi', hl2, by simp only; rw [heo', sel_t (by rw [← hv, d])]⟩ (by simp)
  ·refine ih (suf, pre ++ [x], eo, add .i64 i 1) ⟨hi', hl2, by simp only; rw [hb, sel_f (by rw [← hv, d])]⟩ (by simp)
theorem copy_id (l : List Ext) : sel (tagIn (sel yesE Ext.tag l)) idE l = l := by
 rw [sel_idE, List.filter_eq_self]
 intro a ha
 unfold tagIn hasI sel
 rw [List.any_eq_true]
 exact ⟨a.tag, List.mem_map.2 ⟨a, by simp [yesE, ha], rfl⟩, by simp⟩
theorem ok295 (l : List Ext) (hl : l.length ≤ 1073741824) (w : ∀ y ∈ l, y.body.length ≤ 1099511627776) {f0 : Fl} (h0 : inFl f0 = true) : fix Tb md 295 [R (row fExt l) f0] = some ⟨[R (row fExt l) (.ow false)], [], none⟩ := by
 obtain ⟨ea, hea⟩ := nm (row fExt l)
 rw [← hea]
 generalize hr : (⟨_, [], none⟩ : Ret) = r
 obtain ⟨et, het⟩ := nm (row fI (sel yesE Ext.tag l))
 have hlen : (sel yesE Ext.tag l).length ≤ l.length := sel_len
 refine fix_fn2 (fn := ir295) tb_295 rfl rfl (by decide) rfl ?_; intro Q hQ; simp only [shutArgs, shutS, List.map_cons, List.map_nil, ir295, shut_in h0, List.head?_nil, reduceCtorEq, if_false, sExt, sHello, sAnswer, sEdit, sDeal, sBox, sDialed, sKnown]
 intro add sub mul arith eq ne lt le gt ge neg conv mn mx not beq len at' ln bd cut app allS isNil mks set o hP F ho
 have c1 : o 280 [R ea (.sp 0 0)] = some ⟨[R et (.ow false)], [], none⟩ := by rw [ho, het, hea]; exact ok280 _ hl rfl
 have c2 : o 307 [R ea (.sp 0 0), R et (.sp 1 0)] = some ⟨[R ea (.ow false)], [], none⟩ := by
  rw [ho, het, hea]
  have h := ok307 l (sel yesE Ext.tag l) hl (by omega) w (f0 := .sp 0 0) (f1 := .sp 1 0) rfl rfl
  rw [copy_id] at h
  exact h
 cbv
 rw [c1]; cbv
 rw [c2]; cbv
 rw [hQ]; cbv
 exact congrArg some hr
def editA (a : Answer) (e : Edit) : Answer := if (decide (e.kind = 4) && inR e.n 1 9) = true then ⟨e.n, a.exts⟩ else if decide (e.kind = 5) = true then ⟨a.version, sel (notTag e.n) idE a.exts⟩ else a
theorem ok154 (a : Answer) (e : Edit) (hl : a.exts.length ≤ 1073741824) (w : ∀ y ∈ a.exts, y.body.length ≤ 1099511627776) {f0 : Fl} (h0 : inFl f0 = true) : fix Tb md 154 [sAnswer a.version (row fExt a.exts) f0, sEdit e.kind e.n] = some ⟨[sAnswer (editA a e).version (row fExt (editA a e).exts) (.ow false)], [], none⟩ := by
 obtain ⟨b1, hb1⟩ := nm (decide (e.kind = 4))
 obtain ⟨b2, hb2⟩ := nm (inR e.n 1 9)
 obtain ⟨b3, hb3⟩ := nm (decide (e.kind = 5))
 have hv : editA a e = if (b1 && b2) = true then ⟨e.n, a.exts⟩ else if b3 = true then ⟨a.version, sel (notTag e.n) idE a.exts⟩ else a := by rw [hb1, hb2, hb3]; rfl
 obtain ⟨z, hz⟩ := nm (editA a e)
 rw [← hz] at hv ⊢
 have hA : b1 = true → b2 = true → z = ⟨e.n, a.exts⟩ := by intro q1 q2; rw [hv, q1, q2]; rfl
 have hB : (b1 && b2) = false → b3 = true → z = ⟨a.version, sel (notTag e.n) idE a.exts⟩ := by intro q1 q2; rw [hv, q1, q2]; rfl
 have hC : (b1 && b2) = false → b3 = false → z = a := by intro q1 q2; rw [hv, q1, q2]; rfl
 obtain ⟨et, het⟩ := nm (row fExt z.exts)
 rw [← het]
 generalize hr : (⟨_, [], none⟩ : Ret) = r
 obtain ⟨ea, hea⟩ := nm (row fExt a.exts)
 rw [← hea]
 obtain ⟨ed, hed⟩ := nm (row fExt (sel (notTag e.n) idE a.exts))
 refine fix_fn2 (fn := ir154) tb_154 rfl rfl (by decide) rfl ?_; intro Q hQ; simp only [shutArgs, shutS, List.map_cons, List.map_nil, ir154, shut_in h0, List.head?_nil, reduceCtorEq, if_false, sExt, sHello, sAnswer, sEdit, sDeal, sBox, sDialed, sKnown]
 intro add sub mul arith eq ne lt le gt ge neg conv mn mx not beq len at' ln bd cut app allS isNil mks set o hP F ho
 have c1 : o 295 [R ea (.sp 0 0)] = some ⟨[R ea (.ow false)], [], none⟩ := by rw [ho, hea]; exact ok295 _ hl w rfl
 have c2 : o 230 [I e.n, I 1, I 9] = some ⟨[B b2], [], none⟩ := by rw [ho, hb2]; exact ok230 ..
 have c3 : o 296 [R ea (.sp 0 0), I e.n] = some ⟨[R ed (.ow false)], [], none⟩ := by rw [ho, hed, hea]; exact ok296 _ _ hl w rfl
 have g1 : eq e.kind 4 = b1 := by rw [F.eq, hb1]
 have g2 : eq e.kind 5 = b3 := by rw [F.eq, hb3]
 cbv
 rw [c1]; cbv
 rw [g1]; cbv
 refine both (fun d1 => ?_) (fun d1 => ?_) <;> rw [d1] <;> cbv
 ·rw [c2]; cbv
  refine both (fun d2 => ?_) (fun d2 => ?_) <;> rw [d2] <;> cbv
  ·rw [hQ]; cbv
   have hv := hA d1 d2
   rw [← hr, het, hv, hea]
  ·rw [g2]; cbv
   refine both (fun d3 => ?_) (fun d3 => ?_) <;> rw [d3] <;> cbv
   ·rw [c3]; cbv
    rw [hQ]; cbv
    have hv := hB (by rw [d1, d2]; rfl) d3
    rw [← hr, het, hv, hed]
   ·rw [hQ]; cbv
    have hv := hC (by rw [d1, d2]; rfl) d3
    rw [← hr, het, hv, hea]
 ·rw [g2]; cbv
  refine both (fun d3 => ?_) (fun d3 => ?_) <;> rw [d3] <;> cbv
  ·rw [c3]; cbv
   rw [hQ]; cbv
   have hv := hB (by rw [d1]; rfl) d3
   rw [← hr, het, hv, hed]
  ·rw [hQ]; cbv
   have hv := hC (by rw [d1]; rfl) d3
   rw [← hr, het, hv, hea]
theorem editA_mid {a : Answer} {e : Edit} (h : a.Mid) : (editA a e).Mid := by
 unfold editA
 split
 ·exact h
 ·split
  ·unfold Answer.Mid at *
   exact ⟨Nat.le_trans sel_len h.1, fun y hy => h.2 y (by rw [sel_idE] at hy; exact (List.mem_filter.1 hy).1)⟩
  ·exact h
def resv (t : Int) : Bool := inR t 0 255 && decide (Int.tmod t 16 = 10)
theorem ok301 (t : Int) : fix Tb md 301 [I t] = some ⟨[B (resv t)], [], none⟩ := by
 obtain ⟨a, ha⟩ := nm (inR t 0 255)
 obtain ⟨n, hn⟩ := nm (Int.tmod t 16)
 obtain ⟨b, hb⟩ := nm (decide (n = 10))
 rw [show resv t = (a && b) by rw [ha, hb, hn]; rfl]
 generalize hr : (⟨_, [], none⟩ : Ret) = r
 refine fix_fn2 (fn := ir301) tb_301 rfl rfl (by decide) rfl ?_; intro Q hQ; simp only [shutArgs, shutS, List.map_cons, List.map_nil, ir301, List.head?_nil, reduceCtorEq, if_false, sExt, sHello, sAnswer, sEdit, sDeal, sBox, sDialed, sKnown]
 intro add sub mul arith eq ne lt le gt ge neg conv mn mx not beq len at' ln bd cut app allS isNil mks set o hP F ho
 have c1 : o 230 [I t, I 0, I 255] = some ⟨[B a], [], none⟩ := by rw [ho, ha]; exact ok230 ..
 have g1 : arith .rem .i64 t 16 = some (.int .i64 n) := by rw [F.arith, hn]; rfl
 have g2 : eq n 10 = b := by rw [F.eq, hb]
 cbv
 rw [c1]; cbv
 refine both (fun d => ?_) (fun d => ?_) <;> rw [d] <;> cbv
 ·rw [g1]; cbv
  rw [hQ]; cbv
  rw [g2, ← hr, d]; rfl
 ·rw [hQ]; cbv
  rw [← hr, d]; rfl
def okT (h : Hello) (e : Ext) : Bool := !(decide (extOf h.exts e.tag < 0) || resv e.tag)
def fitsV (h : Hello) (a : Answer) : Bool := a.exts.all (okT h) && isHel h && isAns a.version a.exts && hasI h.versions a.version
theorem ok160 (h : Hello) (a : Answer) (mh : h.Mid) (ma : a.Mid) {f0 f1 f2 : Fl} (q0 : inFl f0 = true) (q1 : inFl f1 = true) (q2 : inFl f2 = true) : fix Tb md 160 [sHello (row fI h.versions) (row fExt h.exts) f0 f1, sAnswer a.version (row fExt a.exts) f2] = some ⟨[B (fitsV h a)], [], none⟩ := by
 have mh' := mh
 have ma' := ma
 unfold Hello.Mid at mh
 unfold Answer.Mid at ma
 obtain ⟨T1, hT1⟩ := nm (a.exts.all (okT h))
 obtain ⟨u1, hu1⟩ := nm (isHel h)
 obtain ⟨u2, hu2⟩ := nm (isAns a.version a.exts)
 obtain ⟨u3, hu3⟩ := nm (hasI h.versions a.version)
 rw [show fitsV h a = (T1 && u1 && u2 && u3) by rw [hT1, hu1, hu2, hu3]; rfl]
 generalize hr : (⟨_, [], none⟩ : Ret) = r
 obtain ⟨dv, hdv⟩ := nm (row fI h.versions)
 obtain ⟨dx, hdx⟩ := nm (row fExt h.exts)
 obtain ⟨ex, hex⟩ := nm (row fExt a.exts)
 rw [← hdv, ← hdx, ← hex]
 have wh : ∀ y ∈ h.exts, y.body.length ≤ 1099511627776 := fun y hy => Nat.le_trans (show y.body.length ≤ 1073741824 from mh.2.2 y hy) (by decide)
 have wa : ∀ y ∈ a.exts, y.body.length ≤ 1099511627776 := fun y hy => Nat.le_trans (show y.body.length ≤ 1073741824 from ma.2 y hy) (by decide)
 have mal := ma.1
 refine fix_fn2 (fn := ir160) tb_160 rfl rfl (by decide) rfl ?_; intro Q hQ; simp only [shutArgs, shutS, List.map_cons, List.map_nil, ir160, shut_in q0, shut_in q1, shut_in q2, List.head?_nil, reduceCtorEq, if_false, sExt, sHello, sAnswer, sEdit, sDeal, sBox, sDialed, sKnown]
 intro add sub mul arith eq ne lt le gt ge neg conv mn mx not beq len at' ln bd cut app allS isNil mks set o hP F ho
 have lx := F.len_at hex
 have c1 : o 142 [sHello dv dx (.sp 0 0) (.sp 0 1)] = some ⟨[B u1], [], none⟩ := by rw [ho, hu1, hdv, hdx]; exact ok142 _ (by omega) (by omega) wh rfl rfl
 have c2 : o 127 [sAnswer a.version ex (.sp 0 1)] = some ⟨[B u2], [], none⟩ := by rw [ho, hu2, hex]; exact ok127 _ _ (by omega) wa rfl
 have c3 : o 285 [R dv (.sp 0 0), I a.version] = some ⟨[B u3], [], none⟩ := by rw [ho, hu3, hdv]; exact ok285 _ _ (by omega) rfl
 cbv
 refine loop_ind2 hP (σ := List Ext × List Ext × Int) (fun s => [(0, sHello dv dx .sh .sh), (1, sAnswer a.version ex .sh), (2, ⟨.ptr 47 0, []⟩), (3, ⟨.ptr 48 0, []⟩), (4, B false), (5, I s.2.2), (47, ⟨.box (), [⟨.row () dv, .sh⟩, ⟨.row () dx, .sh⟩]⟩), (48, ⟨.box (), [⟨.int .i64 a.version, .sc⟩, ⟨.row () ex, .sh⟩]⟩)]) (fun s => At s.2.2 s.2.1.length ∧ a.exts = s.2.1 ++ s.1 ∧ s.1.all (okT h) = T1) (fun s => s.1.length) (a.exts, [], 0) rfl ⟨rfl, rfl, hT1.symm⟩ ?_
 intro c9 Q1 hc1 hQ1
 rintro ⟨suf, pre, i⟩ ⟨hi, hl', hb⟩ ih
 simp only at hi hl' hb ih
 cbv
 cases suf with
 | nil =>
  have hT1' : T1 = true := by rw [← hb]; rfl
  rw [F.lt_f hi lx (by simp [hl'])]; cbv
  rw [hQ1]; cbv
  rw [c1]; cbv
  refine both (fun d1 => ?_) (fun d1 => ?_) <;> rw [d1] <;> cbv
  ·rw [c2]; cbv
   refine both (fun d2 => ?_) (fun d2 => ?_) <;> rw [d2] <;> cbv
   ·rw [c3]; cbv
    rw [hQ]; cbv
    rw [← hr, hT1', d1, d2]; rfl
   ·rw [hQ]; cbv
    rw [← hr, hT1', d1, d2]; rfl
  ·rw [hQ]; cbv
   rw [← hr, hT1', d1]; rfl
 | cons y suf =>
  obtain ⟨ix, hix⟩ := nm (pre.length * 2)
  obtain ⟨e1, he1⟩ := nm (row fI y.body)
  have hi' : At (add .i64 i 1) (pre ++ [y]).length := at_len (F.inc hi (by simp [hl'] at mal; omega)) (by simp)
  have hl2 : a.exts = (pre ++ [y]) ++ suf := by rw [hl']; simp
  have p0 : at' 2 ex i = some (ix, [.int .i64 y.tag, .row () e1]) := by rw [hix, he1]; exact F.get hi hex hl' (fun _ => rfl) (by decide)
  obtain ⟨v, hvv⟩ := nm (extOf h.exts y.tag)
  obtain ⟨b1, hb1⟩ := nm (decide (v < 0))
  obtain ⟨b2, hb2⟩ := nm (resv y.tag)
  have hT' : T1 = (!(b1 || b2) && suf.all (okT h)) := by rw [← hb, hb1, hb2, hvv]; rfl
  have c4 : o 286 [R dx (.sp 0 0), I y.tag] = some ⟨[I v], [], none⟩ := by rw [ho, hvv, hdx]; exact ok286 _ _ (by omega) rfl
  have c5 : o 301 [I y.tag] = some ⟨[B b2], [], none⟩ := by rw [ho, hb2]; exact ok301 ..
  have g1 : lt v 0 = b1 := by rw [F.lt, hb1]
  rw [F.lt_t hi lx (by simp [hl'])]; cbv
  rw [p0]; cbv
  rw [c4]; cbv
  rw [g1]; cbv
  refine both (fun d1 => ?_) (fun d1 => ?_) <;> rw [d1] <;> cbv
  ·rw [hQ1]; cbv
   rw [hQ]; cbv
   rw [← hr, hT', d1]; rfl
  rw [p0]; cbv
  rw [c5]; cbv
  refine both (fun d2 => ?_) (fun d2 => ?_) <;> rw [d2] <;> cbv
  ·rw [hQ1]; cbv
   rw [hQ]; cbv
   rw [← hr, hT', d2, Bool.or_true]; rfl
  refine ih (suf, pre ++ [y], add .i64 i 1) ⟨hi', hl2, ?_⟩ (by simp)
  rw [hT', d1, d2]; rfl
def helB (h : Hello) : List Int := if isHel h then (h.versions.length : Int) :: h.versions ++ encX h.exts else []
theorem isHel_ex {h : Hello} (q : isHel h = true) : areEx h.exts = true := by unfold isHel at q; simp only [Bool.and_eq_true] at q; exact q.2
theorem helB_len (h : Hello) : (helB h).length ≤ h.versions.length + 39 := by
 unfold helB
 split
 ·rename_i q
  have := encX_len (isHel_ex q)
  simp; omega
 ·simp
theorem asc_len : ∀ (l : List Int) (d : Int), d ≤ 9 → l.Pairwise (· < ·) → (∀ x ∈ l, d < x ∧ x ≤ 9) → (l.length : Int) ≤ 9 - d
 | [], d, h, _, _ => by simp; omega
 | x :: l, d, h, h1, h2 => by
  have hx := h2 x (by simp)
  have := asc_len l x hx.2 (List.pairwise_cons.1 h1).2 (fun y hy => ⟨(List.pairwise_cons.1 h1).1 y hy, (h2 y (by simp [hy])).2⟩)
  simp only [List.length_cons, Int.natCast_add, Int.natCast_one]; omega
theorem isHel_vl {h : Hello} (q : isHel h = true) : h.versions.length ≤ 9 := by
 unfold isHel at q; simp only [Bool.and_eq_true] at q
 obtain ⟨h1, h2⟩ := areVer_asc q.1
 have := asc_len h.versions 0 (by decide) h1 (fun x hx => by have := h2 x hx; omega)
 omega
theorem helB_small (h : Hello) : (helB h).length ≤ 48 := by
 cases q : isHel h with
 | true => have := isHel_vl q; have := helB_len h; omega
 | false => unfold helB; rw [q]; simp
theorem ok162 (h : Hello) (mh : h.Mid) {f0 f1 : Fl} (q0 : inFl f0 = true) (q1 : inFl f1 = true) : fix Tb md 162 [sHello (row fI h.versions) (row fExt h.exts) f0 f1] = some ⟨[R (row fI (helB h)) (.ow false)], [], none⟩ := by
 have mh' := mh
 unfold Hello.Mid at mh'
 have hvl := mh'.1
 have hxl := mh'.2.1
 have wh : ∀ y ∈ h.exts, y.body.length ≤ 1099511627776 := fun y hy => Nat.le_trans (show y.body.length ≤ 1073741824 from mh'.2.2 y hy) (by decide)
 have k1 := ok142 h (by omega) (by omega) wh (f0 := .sp 0 0) (f1 := .sp 0 1) rfl rfl
 cases hi : isHel h with
 | false =>
  rw [hi] at k1
  have hb : helB h = [] := by unfold helB; rw [hi]; rfl
  rw [hb]
  generalize hr : (⟨_, [], none⟩ : Ret) = r
  obtain ⟨dv, hdv⟩ := nm (row fI h.versions)
  obtain ⟨dx, hdx⟩ := nm (row fExt h.exts)
  rw [← hdv, ← hdx] at k1 ⊢
  refine fix_fn2 (fn := ir162) tb_162 rfl rfl (by decide) rfl ?_; intro Q hQ; simp only [shutArgs, shutS, List.map_cons, List.map_nil, ir162, shut_in q0, shut_in q1, List.head?_nil, reduceCtorEq, if_false, sExt, sHello, sAnswer, sEdit, sDeal, sBox, sDialed, sKnown]
  intro add sub mul arith eq ne lt le gt ge neg conv mn mx not beq len at' ln bd cut app allS isNil mks set o hP F ho
  rw [← ho] at k1
  cbv
  rw [k1]; cbv
  rw [show not false = true by rw [F.not]; rfl]; cbv
  rw [hQ]; cbv
  exact congrArg some hr
 | true =>
  rw [hi] at k1
  have hok := isHel_ex hi
  have hlen := encX_len hok
  have hb : helB h = (h.versions.length : Int) :: h.versions ++ encX h.exts := by unfold helB; rw [hi]; rfl
  rw [hb]
  obtain ⟨n, hn⟩ := nm ((h.versions.length : Int))
  obtain ⟨et, het⟩ := nm (row fI (n :: h.versions ++ encX h.exts))
  rw [← hn, ← het]
  generalize hr : (⟨_, [], none⟩ : Ret) = r
  obtain ⟨dv, hdv⟩ := nm (row fI h.versions)
  obtain ⟨dx, hdx⟩ := nm (row fExt h.exts)
  rw [← hdv, ← hdx] at k1 ⊢
  obtain ⟨ex, hex⟩ := nm (row fI (encX h.exts))
  refine fix_fn2 (fn := ir162) tb_162 rfl rfl (by decide) rfl ?_; intro Q hQ; simp only [shutArgs, shutS, List.map_cons, List.map_nil, ir162, shut_in q0, shut_in q1, List.head?_nil, reduceCtorEq, if_false, sExt, sHello, sAnswer, sEdit, sDeal, sBox, sDialed, sKnown]
  intro add sub mul arith eq ne lt le gt ge neg conv mn mx not beq len at' ln bd cut app allS isNil mks set o hP F ho
  rw [← ho] at k1
  have c2 : o 293 [R dx (.sp 0 0)] = some ⟨[R ex (.ow false), B true], [], none⟩ := by rw [ho, hdx, hex]; exact ok293 _ hok rfl
  have g1 : len dv = n := by rw [hn]; exact F.len_at hdv
  cbv
  rw [k1]; cbv
  rw [show not true = false by rw [F.not]; rfl]; cbv
  rw [c2]; cbv
  rw [g1]; cbv
  obtain ⟨e1, he1⟩ := nm (row fI (n :: h.versions))
  have p1 : app 1 [[.int .i64 n]] dv = some e1 := by rw [he1]; exact F.app' (f := fI) (k := 1) (e1 := [[.int .i64 n]]) (l1 := [n]) rfl hdv (fun _ => rfl) (by simp; omega)
  have p2 : app 1 e1 ex = some et := by rw [het]; exact F.app' (f := fI) (k := 1) he1 hex (fun _ => rfl) (by simp; omega)
  have p3 : allS dv = true := F.scal hdv (fun _ => rfl)
  have p4 : allS ex = true := F.scal hex (fun _ => rfl)
  rw [p3]; cbv
  rw [p1]; cbv
  rw [p4]; cbv
  rw [p2]; cbv
  rw [hQ]; cbv
  exact congrArg some hr
theorem ok256 (l b : List Int) (hl : l.length ≤ 1073741824) (hb' : b.length ≤ 1073741824) {f0 f1 : Fl} (h0 : inFl f0 = true) (h1 : inFl f1 = true) : fix Tb md 256 [R (row fI l) f0, R (row fI b) f1] = some ⟨[R (row fI (sel (hasI b) idI l)) (.ow false)], [], none⟩ := by
 obtain ⟨et, het⟩ := nm (row fI (sel (hasI b) idI l))
 rw [← het]
 generalize hr : (⟨_, [], none⟩ : Ret) = r
 obtain ⟨ea, hea⟩ := nm (row fI l)
 obtain ⟨eb, heb⟩ := nm (row fI b)
 rw [← hea, ← heb]
 refine fix_fn2 (fn := ir256) tb_256 rfl rfl (by decide) rfl ?_; intro Q hQ; simp only [shutArgs, shutS, List.map_cons, List.map_nil, ir256, shut_in h0, shut_in h1, List.head?_nil, reduceCtorEq, if_false, sExt, sHello, sAnswer, sEdit, sDeal, sBox, sDialed, sKnown]
 intro add sub mul arith eq ne lt le gt ge neg conv mn mx not beq len at' ln bd cut app allS isNil mks set o hP F ho
 have la := F.len_at hea
 cbv
 refine loop_ind2 hP (σ := List Int × List Int × List (List V) × Int) (fun s => [(0, R ea .sh), (1, R eb .sh), (4, R [] .nl), (5, R s.2.2.1 (.ow false)), (6, I s.2.2.2)]) (fun s => At s.2.2.2 s.2.1.length ∧ l = s.2.1 ++ s.1 ∧ s.2.2.1 = row fI (sel (hasI b) idI s.2.1)) (fun s => s.1.length) (l, [], [], 0) rfl ⟨rfl, rfl, rfl⟩ ?_
 intro c1 Q1 hc1 hQ1
 rintro ⟨suf, pre, eo, i⟩ ⟨hi, hl', hb⟩ ih
 simp only at hi hl' hb ih
 cbv
 cases suf with
 | nil =>
  rw [F.lt_f hi la (by simp [hl'])]; cbv
  rw [hQ1]; cbv
  rw [hQ]; cbv
  rw [← hr, het, hb, hl', List.append_nil]
 | cons x suf =>
  obtain ⟨ix, hix⟩ := nm (pre.length * 1)
  have hpre : pre.length ≤ 1073741824 := by rw [hl'] at hl; simp at hl; omega
  have hs : (sel (hasI b) idI pre).length ≤ pre.length := sel_len
  have hi' : At (add .i64 i 1) (pre ++ [x]).length := at_len (F.inc hi (by omega)) (by simp)
  have hl2 : l = (pre ++ [x]) ++ suf := by rw [hl']; simp
  have hmem : x ∈ l := by rw [hl']; simp
  have p0 : at' 1 ea i = some (ix, [.int .i64 x]) := by rw [hix]; exact F.get hi hea hl' (fun _ => rfl) (by decide)
  obtain ⟨v, hv⟩ := nm (hasI b x)
  have c2 : o 285 [R eb (.sp 0 0), I x] = some ⟨[B v], [], none⟩ := by rw [ho, hv, heb]; exact ok285 _ _ (by omega) rfl
  rw [F.lt_t hi la (by simp [hl'])]; cbv
  rw [p0]; cbv
  rw [c2]; cbv
  refine both (fun d => ?_) (fun d => ?_) <;> rw [d] <;> cbv
  ·rw [p0]; cbv
   rw [show allS [[.int .i64 x]] = true by rw [F.allS]; rfl]; cbv
   obtain ⟨eo', heo'⟩ := nm (row fI (sel (hasI b) idI pre ++ [idI x]))
   rw [show app 1 eo [[.int .i64 x]] = some eo' by rw [heo']; exact F.push hb (fun _ => rfl) rfl (by omega)]; cbv
   refine ih (suf, pre ++ [x], eo', add .i64 i 1) ⟨hi', hl2, by simp only; rw [heo', sel_t (by rw [← hv, d])]⟩ (by simp)
  ·refine ih (suf, pre ++ [x], eo, add .i64 i 1) ⟨hi', hl2, by simp only; rw [hb, sel_f (by rw [← hv, d])]⟩ (by simp)
theorem ok112 (a b : List Int) (ha : a.length ≤ 1073741824) (hb : b.length ≤ 1073741824) {f0 f1 : Fl} (q0 : inFl f0 = true) (q1 : inFl f1 = true) : fix Tb md 112 [R (row fI a) f0, R (row fI b) f1] = some ⟨[I (bestC a b)], [], none⟩ := by
 obtain ⟨u, hu⟩ := nm (areVer a)
 obtain ⟨v, hv⟩ := nm (areVer b)
 obtain ⟨l, hl⟩ := nm (comm a b)
 obtain ⟨T, hT⟩ := nm (bestC a b)
 rw [← hT]
 have hT' : T = if u && v then l.getLastD 0 else 0 := by rw [hT, hu, hv, hl]; rfl
 clear hT
 have hll : l.length ≤ 1073741824 := by rw [hl]; exact Nat.le_trans sel_len ha
 obtain ⟨pre, hpre⟩ := nm (l.dropLast)
 obtain ⟨x, hx⟩ := nm (l.getLastD 0)
 have hlx : l ≠ [] → l = pre ++ x :: [] := fun h => by rw [hpre, hx]; exact last_split h
 generalize hr : (⟨_, [], none⟩ : Ret) = r
 obtain ⟨ea, hea⟩ := nm (row fI a)
 obtain ⟨eb, heb⟩ := nm (row fI b)
 rw [← hea, ← heb]
 obtain ⟨el, hel⟩ := nm (row fI l)
 obtain ⟨ix, hix⟩ := nm (pre.length * 1)
 refine fix_fn2 (fn := ir112) tb_112 rfl rfl (by decide) rfl ?_; intro Q hQ; simp only [shutArgs, shutS, List.map_cons, List.map_nil, ir112, shut_in q0, shut_in q1, List.head?_nil, reduceCtorEq, if_false, sExt, sHello, sAnswer, sEdit, sDeal, sBox, sDialed, sKnown]
 intro add sub mul arith eq ne lt le gt ge neg conv mn mx not beq len at' ln bd cut app allS isNil mks set o hP F ho
 have ll := F.len_at hel
 have c1 : o 256 [R ea (.sp 0 0), R eb (.sp 1 0)] = some ⟨[R el (.ow false)], [], none⟩ := by rw [ho, hel, hl, hea, heb]; exact ok256 _ _ ha hb rfl rfl
 have c2 : o 257 [R ea (.sp 0 0)] = some ⟨[B u], [], none⟩ := by rw [ho, hu, hea]; exact ok257 _ (by omega) rfl
 have c3 : o 257 [R eb (.sp 0 0)] = some ⟨[B v], [], none⟩ := by rw [ho, hv, heb]; exact ok257 _ (by omega) rfl
 have g1 : eq (len el) 0 = decide (l.length = 0) := F.eq_n ll (k := 0) (m := 0) rfl
 cbv
 rw [c1]; cbv
 rw [c2]; cbv
 refine both (fun d1 => ?_) (fun d1 => ?_) <;> rw [d1] <;> cbv
 ·rw [hQ]; cbv
  rw [← hr, hT', F.not_t d1]; rfl
 rw [c3]; cbv
 refine both (fun d2 => ?_) (fun d2 => ?_) <;> rw [d2] <;> cbv
 ·rw [hQ]; cbv
  rw [← hr, hT', F.not_f d1, F.not_t d2]; rfl
 refine both (fun d3 => ?_) (fun d3 => ?_) <;> rw [d3] <;> cbv
 ·rw [hQ]; cbv
  rw [g1] at d3
  have hn : l = [] := List.length_eq_zero_iff.1 (by simpa using d3)
  rw [← hr, hT', F.not_f d1, F.not_f d2, hn]; rfl
 rw [g1] at d3
 have hn : l ≠ [] := fun h => by rw [h] at d3; simp at d3
 have hl2 := hlx hn
 have hs : At (sub .i64 (len el) 1) pre.length := by
  unfold At at ll ⊢
  rw [F.sub, ll, wrap64 (by omega) (by omega), hl2]; simp
 rw [show at' 1 el (sub .i64 (len el) 1) = some (ix, [.int .i64 x]) by rw [hix]; exact F.get hs hel hl2 (fun _ => rfl) (by decide)]; cbv
 rw [hQ]; cbv
 rw [← hr, hT', F.not_f d1, F.not_f d2, ← hx]; rfl
def notRes (e : Ext) : Bool := !resv e.tag
theorem ok306 (l : List Ext) (hl : l.length ≤ 1073741824) (w : ∀ y ∈ l, y.body.length ≤ 1099511627776) {f0 : Fl} (h0 : inFl f0 = true) : fix Tb md 306 [R (row fExt l) f0] = some ⟨[R (row fExt (sel notRes idE l)) (.ow false)], [], none⟩ := by
 obtain ⟨et, het⟩ := nm (row fExt (sel notRes idE l))
 rw [← het]
 generalize hr : (⟨_, [], none⟩ : Ret) = r
 obtain ⟨ea, hea⟩ := nm (row fExt l)
 rw [← hea]
 refine fix_fn2 (fn := ir306) tb_306 rfl rfl (by decide) rfl ?_; intro Q hQ; simp only [shutArgs, shutS, List.map_cons, List.map_nil, ir306, shut_in h0, List.head?_nil, reduceCtorEq, if_false, sExt, sHello, sAnswer, sEdit, sDeal, sBox, sDialed, sKnown]
 intro add sub mul arith eq ne lt le gt ge neg conv mn mx not beq len at' ln bd cut app allS isNil mks set o hP F ho
 have la := F.len_at hea
 cbv
 refine loop_ind2 hP (σ := List Ext × List Ext × List (List V) × Int) (fun s => [(0, R ea .sh), (2, R [] .nl), (3, R s.2.2.1 (.ow false)), (4, I s.2.2.2)]) (fun s => At s.2.2.2 s.2.1.length ∧ l = s.2.1 ++ s.1 ∧ s.2.2.1 = row fExt (sel notRes idE s.2.1)) (fun s => s.1.length) (l, [], [], 0) rfl ⟨rfl, rfl, rfl⟩ ?_
 intro c1 Q1 hc1 hQ1
 rintro ⟨suf, pre, eo, i⟩ ⟨hi, hl', hb⟩ ih
 simp only at hi hl' hb ih
 cbv
 cases suf with
 | nil =>
  rw [F.lt_f hi la (by simp [hl'])]; cbv
  rw [hQ1]; cbv
  rw [hQ]; cbv
  rw [← hr, het, hb, hl', List.append_nil]
 | cons x suf =>
  obtain ⟨ix, hix⟩ := nm (pre.length * 2)
  have hpre : pre.length ≤ 1073741824 := by rw [hl'] at hl; simp at hl; omega
  have hs : (sel notRes idE pre).length ≤ pre.length := sel_len
  have hi' : At (add .i64 i 1) (pre ++ [x]).length := at_len (F.inc hi (by omega)) (by simp)
  have hl2 : l = (pre ++ [x]) ++ suf := by rw [hl']; simp
  have hmem : x ∈ l := by rw [hl']; simp
  obtain ⟨e1, he1⟩ := nm (row fI x.body)
  have hx := w x hmem
  have p0 : at' 2 ea i = some (ix, [.int .i64 x.tag, .row () e1]) := by rw [hix, he1]; exact F.get hi hea hl' (fun _ => rfl) (by decide)
  obtain ⟨v, hv⟩ := nm (resv x.tag)
  have hP : notRes x = !v := by rw [hv]; rfl
  have c2 : o 301 [I x.tag] = some ⟨[B v], [], none⟩ := by rw [ho, hv]; exact ok301 ..
  rw [F.lt_t hi la (by simp [hl'])]; cbv
  rw [p0]; cbv
  rw [c2]; cbv
  refine both (fun d => ?_) (fun d => ?_) <;> rw [d] <;> cbv
  ·rw [p0]; cbv
   rw [p0]; cbv
   rw [show allS e1 = true from F.scal he1 (fun _ => rfl)]; cbv
   rw [F.app_nil he1 (fun _ => rfl) hx]; cbv
   rw [show allS [[.int .i64 x.tag, .row () e1]] = false by rw [F.allS]; rfl]; cbv
   obtain ⟨eo', heo'⟩ := nm (row fExt (sel notRes idE pre ++ [idE x]))
   rw [show app 2 eo [[.int .i64 x.tag, .row () e1]] = some eo' by rw [heo', he1]; exact F.push hb (fun _ => rfl) rfl (by omega)]; cbv
   refine ih (suf, pre ++ [x], eo', add .i64 i 1) ⟨hi', hl2, by simp only; rw [heo', sel_t (by rw [hP, F.not_t d]; rfl)]⟩ (by simp)
  ·refine ih (suf, pre ++ [x], eo, add .i64 i 1) ⟨hi', hl2, by simp only; rw [hb, sel_f (by rw [hP, F.not_f d]; rfl)]⟩ (by simp)
def caOk (vs : List Int) (h : Hello) : Bool := isHel h && !decide (bestC vs h.versions = 0)
def caX (tg : List Int) (l : List Ext) : List Ext := sel notRes idE (sel (tagIn tg) idE l)
def caV (vs tg : List Int) (h : Hello) : Answer := if caOk vs h then ⟨bestC vs h.versions, caX tg h.exts⟩ else ⟨0, []⟩
theorem caV_mid {vs tg : List Int} {h : Hello} (m : h.Mid) : (caV vs tg h).Mid := by
 unfold caV
 split
 ·unfold Hello.Mid at m
  refine ⟨Nat.le_trans sel_len (Nat.le_trans sel_len m.2.1), fun y hy => m.2.2 y ?_⟩
  simp only [caX, sel_idE] at hy
  exact (List.mem_filter.1 (List.mem_filter.1 hy).1).1
 ·exact ⟨by simp, by simp⟩
theorem ok168r (vs tg : List Int) (h : Hello) (hv : vs.length ≤ 1073741824) (ht : tg.length ≤ 1073741824) (mh : h.Mid) {f0 f1 f2 f3 : Fl} (q0 : inFl f0 = true) (q1 : inFl f1 = true) (q2 : inFl f2 = true) (q3 : inFl f3 = true) (r : Ret)
  (rA' : caOk vs h = true → (⟨[sAnswer (caV vs tg h).version (row fExt (caV vs tg h).exts) (.ow false), B true], [], none⟩ : Ret) = r) (rC' : caOk vs h = false → (⟨[sAnswer 0 [] .nl, B false], [], none⟩ : Ret) = r) :
  fix Tb md 168 [R (row fI vs) f0, R (row fI tg) f1, sHello (row fI h.versions) (row fExt h.exts) f2 f3] = some r := by
 have mh' := mh
 unfold Hello.Mid at mh'
 have hvl := mh'.1
 have hxl := mh'.2.1
 have wh : ∀ y ∈ h.exts, y.body.length ≤ 1099511627776 := fun y hy => Nat.le_trans (show y.body.length ≤ 1073741824 from mh'.2.2 y hy) (by decide)
 obtain ⟨u, hu⟩ := nm (isHel h)
 obtain ⟨n, hn⟩ := nm (bestC vs h.versions)
 obtain ⟨K, hK⟩ := nm (sel (tagIn tg) idE h.exts)
 obtain ⟨Z, hZ⟩ := nm (sel notRes idE K)
 have hKl : K.length ≤ 1073741824 := by rw [hK]; exact Nat.le_trans sel_len hxl
 have wK : ∀ y ∈ K, y.body.length ≤ 1099511627776 := fun y hy => wh y (by rw [hK, sel_idE] at hy; exact (List.mem_filter.1 hy).1)
 have hok : caOk vs h = (u && !decide (n = 0)) := by rw [hu, hn]; rfl
 have rA : u = true → decide (n = 0) = false → (⟨[sAnswer n (row fExt Z) (.ow false), B true], [], none⟩ : Ret) = r := fun q1 q2 => by
  have hk : caOk vs h = true := by rw [hok, q1, q2]; rfl
  rw [← rA' hk, show caV vs tg h = ⟨n, Z⟩ by rw [caV, hk, if_pos rfl, hn, hZ, hK]; rfl]
 have rC : u = false ∨ decide (n = 0) = true → (⟨[sAnswer 0 [] .nl, B false], [], none⟩ : Ret) = r := fun q => rC' (by rcases q with q | q <;> rw [hok, q] <;> simp)
 clear rA' rC' hok
 obtain ⟨ev, hev⟩ := nm (row fI vs)
 obtain ⟨et, het⟩ := nm (row fI tg)
 obtain ⟨dv, hdv⟩ := nm (row fI h.versions)
 obtain ⟨dx, hdx⟩ := nm (row fExt h.exts)
 rw [← hev, ← het, ← hdv, ← hdx]
 obtain ⟨ek, hek⟩ := nm (row fExt K)
 obtain ⟨ez, hez⟩ := nm (row fExt Z)
 rw [← hez] at rA
 refine fix_fn2 (fn := ir168) tb_168 rfl rfl (by decide) rfl ?_; intro Q hQ; simp only [shutArgs, shutS, List.map_cons, List.map_nil, ir168, shut_in q0, shut_in q1, shut_in q2, shut_in q3, List.head?_nil, reduceCtorEq, if_false, sExt, sHello, sAnswer, sEdit, sDeal, sBox, sDialed, sKnown]
 intro add sub mul arith eq ne lt le gt ge neg conv mn mx not beq len at' ln bd cut app allS isNil mks set o hP F ho
 have c1 : o 112 [R ev (.sp 0 0), R dv (.sp 1 0)] = some ⟨[I n], [], none⟩ := by rw [ho, hn, hev, hdv]; exact ok112 _ _ hv hvl rfl rfl
 have c2 : o 142 [sHello dv dx (.sp 0 0) (.sp 0 1)] = some ⟨[B u], [], none⟩ := by rw [ho, hu, hdv, hdx]; exact ok142 _ (by omega) (by omega) wh rfl rfl
 have c3 : o 307 [R dx (.sp 0 0), R et (.sp 1 0)] = some ⟨[R ek (.ow false)], [], none⟩ := by rw [ho, hek, hK, hdx, het]; exact ok307 _ _ hxl ht wh rfl rfl
 have c4 : o 306 [R ek (.sp 0 0)] = some ⟨[R ez (.ow false)], [], none⟩ := by rw [ho, hez, hZ, hek]; exact ok306 _ hKl wK rfl
 have g1 : eq n 0 = decide (n = 0) := F.eq ..
 cbv
 rw [c1]; cbv
 rw [c2]; cbv
 refine both (fun d1 => ?_) (fun d1 => ?_) <;> rw [d1] <;> cbv
 ·rw [hQ]; cbv
  exact congrArg some (rC (.inl (F.not_t d1)))
 refine both (fun d2 => ?_) (fun d2 => ?_) <;> rw [d2] <;> cbv
 ·rw [hQ]; cbv
  exact congrArg some (rC (.inr (by rw [← g1, d2])))
 rw [c3]; cbv
 rw [c4]; cbv
 rw [hQ]; cbv
 exact congrArg some (rA (F.not_f d1) (by rw [← g1, d2]))
theorem ok168a (vs tg : List Int) (h : Hello) (hv : vs.length ≤ 1073741824) (ht : tg.length ≤ 1073741824) (mh : h.Mid) {f0 f1 f2 f3 : Fl} (q0 : inFl f0 = true) (q1 : inFl f1 = true) (q2 : inFl f2 = true) (q3 : inFl f3 = true) (q : caOk vs h = true) :
  fix Tb md 168 [R (row fI vs) f0, R (row fI tg) f1, sHello (row fI h.versions) (row fExt h.exts) f2 f3] = some ⟨[sAnswer (caV vs tg h).version (row fExt (caV vs tg h).exts) (.ow false), B true], [], none⟩ :=
 ok168r vs tg h hv ht mh q0 q1 q2 q3 _ (fun _ => rfl) (fun e => by rw [q] at e; cases e)
theorem ok168b (vs tg : List Int) (h : Hello) (hv : vs.length ≤ 1073741824) (ht : tg.length ≤ 1073741824) (mh : h.Mid) {f0 f1 f2 f3 : Fl} (q0 : inFl f0 = true) (q1 : inFl f1 = true) (q2 : inFl f2 = true) (q3 : inFl f3 = true) (q : caOk vs h = false) :
  fix Tb md 168 [R (row fI vs) f0, R (row fI tg) f1, sHello (row fI h.versions) (row fExt h.exts) f2 f3] = some ⟨[sAnswer 0 [] .nl, B false], [], none⟩ :=
 ok168r vs tg h hv ht mh q0 q1 q2 q3 _ (fun e => by rw [q] at e; cases e) (fun _ => rfl)
theorem ok168 (vs tg : List Int) (h : Hello) (hv : vs.length ≤ 1073741824) (ht : tg.length ≤ 1073741824) (mh : h.Mid) {f0 f1 f2 f3 : Fl} (q0 : inFl f0 = true) (q1 : inFl f1 = true) (q2 : inFl f2 = true) (q3 : inFl f3 = true) :
  fix Tb md 168 [R (row fI vs) f0, R (row fI tg) f1, sHello (row fI h.versions) (row fExt h.exts) f2 f3] = some ⟨[sAnswer (caV vs tg h).version (row fExt (caV vs tg h).exts) (.ow false), B (caOk vs h)], [], none⟩ ∨
  ((caV vs tg h).exts = [] ∧ fix Tb md 168 [R (row fI vs) f0, R (row fI tg) f1, sHello (row fI h.versions) (row fExt h.exts) f2 f3] = some ⟨[sAnswer (caV vs tg h).version [] .nl, B (caOk vs h)], [], none⟩) := by
 cases q : caOk vs h with
 | true => exact .inl (ok168a vs tg h hv ht mh q0 q1 q2 q3 q)
 | false =>
  rw [show caV vs tg h = ⟨0, []⟩ by rw [caV, q]; rfl]
  exact .inr ⟨rfl, ok168b vs tg h hv ht mh q0 q1 q2 q3 q⟩
theorem ok279 (h : Hello) (mh : h.Mid) {f0 f1 : Fl} (q0 : inFl f0 = true) (q1 : inFl f1 = true) : fix Tb md 279 [sHello (row fI h.versions) (row fExt h.exts) f0 f1] = some ⟨[sHello (row fI h.versions) (row fExt h.exts) (.ow false) (.ow false)], [], none⟩ := by
 have mh' := mh
 unfold Hello.Mid at mh'
 obtain ⟨ev, hev⟩ := nm (row fI h.versions)
 obtain ⟨ex, hex⟩ := nm (row fExt h.exts)
 rw [← hev, ← hex]
 generalize hr : (⟨_, [], none⟩ : Ret) = r
 refine fix_fn2 (fn := ir279) tb_279 rfl rfl (by decide) rfl ?_; intro Q hQ; simp only [shutArgs, shutS, List.map_cons, List.map_nil, ir279, shut_in q0, shut_in q1, List.head?_nil, reduceCtorEq, if_false, sExt, sHello, sAnswer, sEdit, sDeal, sBox, sDialed, sKnown]
 intro add sub mul arith eq ne lt le gt ge neg conv mn mx not beq len at' ln bd cut app allS isNil mks set o hP F ho
 have c1 : o 295 [R ex (.sp 0 0)] = some ⟨[R ex (.ow false)], [], none⟩ := by rw [ho, hex]; exact ok295 _ mh'.2.1 (fun y hy => Nat.le_trans (show y.body.length ≤ 1073741824 from mh'.2.2 y hy) (by decide)) rfl
 cbv
 rw [show allS ev = true from F.scal hev (fun _ => rfl)]; cbv
 rw [F.app_nil hev (fun _ => rfl) (Nat.le_trans mh'.1 (by decide))]; cbv
 rw [c1]; cbv
 rw [hQ]; cbv
 exact congrArg some hr
theorem ok323 (l : List Int) (n : Int) (hl : l.length ≤ 1073741824) {f0 : Fl} (q0 : inFl f0 = true) : fix Tb md 323 [R (row fI l) f0, I n] = some ⟨[R (row fI (dvV l n)) (.ow false), B (dvOk l n)], [], none⟩ := by
 obtain ⟨u, hu⟩ := nm (areVer l)
 obtain ⟨v, hv⟩ := nm (hasI l n)
 obtain ⟨w, hw⟩ := nm (decide (l.length = 1))
 obtain ⟨W, hW⟩ := nm (dvOk l n)
 obtain ⟨et, het⟩ := nm (row fI (dvV l n))
 rw [← hW, ← het]
 have hW' : W = (u && v && !w) := by rw [hW, hu, hv, hw]; rfl
 have hT1 : W = true → et = row fI (sel (neI n) idI l) := fun h => by rw [het, dvV, ← hW, h]; rfl
 have hT2 : W = false → et = row fI l := fun h => by rw [het, dvV, ← hW, h]; rfl
 clear hW het
 generalize hr : (⟨_, [], none⟩ : Ret) = r
 obtain ⟨ea, hea⟩ := nm (row fI l)
 rw [← hea]
 rw [← hea] at hT2
 obtain ⟨es, hes⟩ := nm (row fI (sel (neI n) idI l))
 rw [← hes] at hT1
 refine fix_fn2 (fn := ir323) tb_323 rfl rfl (by decide) rfl ?_; intro Q hQ; simp only [shutArgs, shutS, List.map_cons, List.map_nil, ir323, shut_in q0, List.head?_nil, reduceCtorEq, if_false, sExt, sHello, sAnswer, sEdit, sDeal, sBox, sDialed, sKnown]
 intro add sub mul arith eq ne lt le gt ge neg conv mn mx not beq len at' ln bd cut app allS isNil mks set o hP F ho
 have la := F.len_at hea
 have c1 : o 257 [R ea (.sp 0 0)] = some ⟨[B u], [], none⟩ := by rw [ho, hu, hea]; exact ok257 _ (by omega) rfl
 have c2 : o 285 [R ea (.sp 0 0), I n] = some ⟨[B v], [], none⟩ := by rw [ho, hv, hea]; exact ok285 _ _ (by omega) rfl
 have c3 : o 362 [R ea (.sp 0 0), I n] = some ⟨[R es (.ow false)], [], none⟩ := by rw [ho, hes, hea]; exact ok362 _ _ hl rfl
 have g1 : eq (len ea) 1 = w := by rw [F.eq_n la (k := 1) (m := 1) rfl, hw]
 have g2 : allS ea = true := F.scal hea (fun _ => rfl)
 have g3 : app 1 [] ea = some ea := F.app_nil hea (fun _ => rfl) (by omega)
 cbv
 rw [c1]; cbv
 refine both (fun d1 => ?_) (fun d1 => ?_) <;> rw [d1] <;> cbv
 ·rw [g2]; cbv
  rw [g3]; cbv
  rw [hQ]; cbv
  rw [F.not_t d1] at hW'
  rw [← hr, hW', hT2 hW']; rfl
 rw [c2]; cbv
 refine both (fun d2 => ?_) (fun d2 => ?_) <;> rw [d2] <;> cbv
 ·rw [g2]; cbv
  rw [g3]; cbv
  rw [hQ]; cbv
  rw [F.not_f d1, F.not_t d2] at hW'
  rw [← hr, hW', hT2 hW']; rfl
 rw [g1]; cbv
 refine both (fun d3 => ?_) (fun d3 => ?_) <;> rw [d3] <;> cbv
 ·rw [g2]; cbv
  rw [g3]; cbv
  rw [hQ]; cbv
  rw [F.not_f d1, F.not_f d2, d3] at hW'
  rw [← hr, hW', hT2 hW']; rfl
 rw [c3]; cbv
 rw [hQ]; cbv
 rw [F.not_f d1, F.not_f d2, d3] at hW'
 rw [← hr, hW', hT1 hW']; rfl
theorem ok345 (l : List Int) (n : Int) (hl : l.length ≤ 1073741824) {f0 : Fl} (q0 : inFl f0 = true) : fix Tb md 345 [R (row fI l) f0, I n] = some ⟨[R (row fI (l4V l n)) (.ow false)], [], none⟩ := by
 obtain ⟨T, hT⟩ := nm (l4V l n)
 rw [← hT]
 obtain ⟨et, het⟩ := nm (row fI T)
 rw [← het]
 generalize hr : (⟨_, [], none⟩ : Ret) = r
 obtain ⟨ea, hea⟩ := nm (row fI l)
 rw [← hea]
 refine fix_fn2 (fn := ir345) tb_345 rfl rfl (by decide) rfl ?_; intro Q hQ; simp only [shutArgs, shutS, List.map_cons, List.map_nil, ir345, shut_in q0, List.head?_nil, reduceCtorEq, if_false, sExt, sHello, sAnswer, sEdit, sDeal, sBox, sDialed, sKnown]
 intro add sub mul arith eq ne lt le gt ge neg conv mn mx not beq len at' ln bd cut app allS isNil mks set o hP F ho
 have la := F.len_at hea
 have p9 : allS [[.int .i64 n]] = true := by rw [F.allS]; rfl
 cbv
 refine loop_ind2 hP (σ := List Int × List Int × Int) (fun s => [(0, R ea .sh), (1, I n), (4, R [] .nl), (5, I s.2.2)]) (fun s => At s.2.2 s.2.1.length ∧ l = s.2.1 ++ s.1 ∧ l4Go n s.2.1 s.1 = T) (fun s => s.1.length) (l, [], 0) rfl ⟨rfl, rfl, hT.symm⟩ ?_
 intro c9 Q1 hc9 hQ1
 rintro ⟨suf, pre, i⟩ ⟨hi, hl', hb⟩ ih
 simp only at hi hl' hb ih
 have hpl : pre.length ≤ 1073741824 := by rw [hl'] at hl; simp at hl; omega
 obtain ⟨m, hm⟩ := nm (pre.length)
 obtain ⟨e1, he1⟩ := nm (row fI pre)
 obtain ⟨e2, he2⟩ := nm (row fI suf)
 obtain ⟨e3, he3⟩ := nm (row fI (pre ++ [n]))
 obtain ⟨e4, he4⟩ := nm (row fI (pre ++ [n] ++ suf))
 have b1 : bd (ln ea) i = some m := by rw [F.ln' hea, hm]; exact F.bd' hi (by rw [hl']; simp)
 have b2 : cut 1 ea m 0 = some e1 := by rw [F.cut' hea (fun _ => rfl), he1, hl', hm]; simp
 have b3 : cut 1 ea (ln ea) m = some e2 := by rw [F.cut' hea (fun _ => rfl), F.ln' hea, he2, hl', hm, List.take_length]; simp
 have p1 : allS e1 = true := F.scal he1 (fun _ => rfl)
 have p2 : app 1 [] e1 = some e1 := F.app_nil he1 (fun _ => rfl) (by omega)
 have p3 : app 1 e1 [[.int .i64 n]] = some e3 := by rw [he3]; exact F.push he1 (fun _ => rfl) rfl (by omega)
 have p4 : allS e2 = true := F.scal he2 (fun _ => rfl)
 have p5 : app 1 e3 e2 = some e4 := by rw [he4]; exact F.app' he3 he2 (fun _ => rfl) (by rw [hl'] at hl; simp at hl ⊢; omega)
 cbv
 cases suf with
 | nil =>
  rw [F.lt_f hi la (by simp [hl'])]; cbv
  rw [hQ1]; cbv
  rw [F.lt_f hi la (by simp [hl'])]; cbv
  rw [b1]; cbv
  rw [b2]; cbv
  rw [p1]; cbv
  rw [p2]; cbv
  rw [p9]; cbv
  rw [p3]; cbv
  rw [b1]; cbv
  rw [b3]; cbv
  rw [p4]; cbv
  rw [p5]; cbv
  rw [hQ]; cbv
  rw [← hr, het, ← hb, he4]; unfold l4Go; simp
 | cons x suf =>
  obtain ⟨ix, hix⟩ := nm (pre.length * 1)
  have p0 : at' 1 ea i = some (ix, [.int .i64 x]) := by rw [hix]; exact F.get hi hea hl' (fun _ => rfl) (by decide)
  have g1 : lt x n = decide (x < n) := F.lt ..
  have g2 : eq x n = decide (x = n) := F.eq ..
  unfold l4Go at hb
  rw [F.lt_t hi la (by simp [hl'])]; cbv
  rw [p0]; cbv
  refine both (fun d1 => ?_) (fun d1 => ?_) <;> rw [d1] <;> cbv
  ·rw [g1, decide_eq_true_eq] at d1
   rw [if_pos d1] at hb
   refine ih (suf, pre ++ [x], add .i64 i 1) ⟨at_len (F.inc hi (by omega)) (by simp), by rw [hl']; simp, hb⟩ (by simp)
  rw [hQ1]; cbv
  rw [g1, decide_eq_false_iff_not] at d1
  rw [if_neg d1] at hb
  rw [F.lt_t hi la (by simp [hl'])]; cbv
  rw [p0]; cbv
  refine both (fun d2 => ?_) (fun d2 => ?_) <;> rw [d2] <;> cbv
  ·rw [g2, decide_eq_true_eq] at d2
   rw [if_pos d2] at hb
   rw [show allS ea = true from F.scal hea (fun _ => rfl)]; cbv
   rw [F.app_nil hea (fun _ => rfl) (by omega)]; cbv
   rw [hQ]; cbv
   rw [← hr, het, ← hb, hea, hl']
  ·rw [g2, decide_eq_false_iff_not] at d2
   rw [if_neg d2] at hb
   rw [b1]; cbv
   rw [b2]; cbv
   rw [p1]; cbv
   rw [p2]; cbv
   rw [p9]; cbv
   rw [p3]; cbv
   rw [b1]; cbv
   rw [b3]; cbv
   rw [p4]; cbv
   rw [p5]; cbv
   rw [hQ]; cbv
   rw [← hr, het, ← hb, he4]; simp
end Go.Vm
