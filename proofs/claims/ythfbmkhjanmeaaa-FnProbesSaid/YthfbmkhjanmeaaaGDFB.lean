/- What the functions answer. -/
import Derived.Test.YthfbmkhjanmeaaaGDTab
import Derived.Test.YthfbmkhjanmeaaaGDFA
set_option maxHeartbeats 4000000
set_option maxRecDepth 10000
set_option linter.unusedVariables false
set_option linter.unusedSimpArgs false
namespace Go.Vm
theorem ok351_0 (g : Nat) (hg : md g = []) (p : Ext → Bool) (l : List Ext) (hl : l.length ≤ 1099511627776) (hp : ∀ x ∈ l, fix Tb md g [sExt x.tag (row fI x.body) (.sp 0 1)] = some ⟨[B (p x)], [], none⟩) {f0 : Fl} (h0 : inFl f0 = true) :
  fix Tb md 351 [R (row fExt l) f0, ⟨.val, [⟨.fn g [], .sh⟩]⟩] = some ⟨[I (ixOf p l 0)], [], none⟩ := by
 generalize hm : md = m at hg hp ⊢
 refine fix_fn (fn := ir351) tb_351 rfl rfl (by decide) rfl ?_; simp only [shutArgs, shutS, List.map_cons, List.map_nil, ir351, shut_in h0, List.head?_nil, reduceCtorEq, if_false, sExt, sHello, sAnswer, sEdit, sDeal, sBox, sDialed, sKnown]
 generalize hr : (⟨_, [], none⟩ : Ret) = r
 obtain ⟨ea, hea⟩ := nm (row fExt l)
 rw [← hea]
 intro add sub mul arith eq ne lt le gt ge neg conv mn mx not beq len at' ln bd cut app allS isNil mks set o hP F ho
 have la := F.len_at hea
 cbv
 refine loop_ind hP (σ := List Ext × List Ext × Int × Option Int) (fun s => match s.2.2.2 with | none => [(0, R ea .sh), (1, ⟨.val, [⟨.fn g [], .sh⟩]⟩), (4, I 0), (7, I (len ea)), (8, I s.2.2.1)] | some j => [(0, R ea .sh), (1, ⟨.val, [⟨.fn g [], .sh⟩]⟩), (4, I 0), (5, I j), (7, I (len ea)), (8, I s.2.2.1)])
  (fun s => At s.2.2.1 s.2.1.length ∧ l = s.2.1 ++ s.1 ∧ ixOf p s.1 (s.2.1.length : Int) = ixOf p l 0) (fun s => s.1.length) (l, [], 0, none) rfl ⟨rfl, rfl, rfl⟩ ?_
 rintro ⟨suf, pre, i, j⟩ ⟨hi, hl', hx⟩ ih
 simp only at hi hl' hx ih
 have hi' : i = (pre.length : Int) := hi
 rw [← hi'] at hx
 cases j <;> cbv <;> (
  cases suf with
  | nil =>
   rw [F.lt_f hi la (by simp [hl'])]; cbv
   rw [← hr, ← hx]; rfl
  | cons x suf =>
   rw [F.lt_t hi la (by simp [hl'])]; cbv
   obtain ⟨e1, he1⟩ := nm (row fI x.body)
   obtain ⟨ix, hix⟩ := nm (pre.length * 2)
   rw [show at' 2 ea i = some (ix, [.int .i64 x.tag, .row () e1]) by rw [hix, he1]; exact F.get hi hea hl' (fun _ => rfl) (by decide)]; cbv
   obtain ⟨v, hv⟩ := nm (p x)
   have c1 : o g [sExt x.tag e1 (.sp 0 1)] = some ⟨[B v], [], none⟩ := by rw [ho, hv, he1]; exact hp x (by rw [hl']; simp)
   rw [hg]; cbv
   rw [c1]; cbv
   have hx1 : ixOf p (x :: suf) i = if p x = true then i else ixOf p suf (i + 1) := rfl
   rw [hx1] at hx
   refine both (fun c => ?_) (fun c => ?_) <;> rw [c] <;> cbv
   ·rw [← hv, if_pos c] at hx
    rw [← hr, ← hx]
   ·rw [← hv, if_neg (by simp [c])] at hx
    refine ih (suf, pre ++ [x], add .i64 i 1, some i) ⟨at_len (F.inc hi (by simp [hl'] at hl; omega)) (by simp), by simp [hl'], ?_⟩ (by simp)
    rw [← hx, hi']
    simp)
theorem ok351_1 (g : Nat) (hg : md g = []) (k0 : V) (p : Ext → Bool) (l : List Ext) (hl : l.length ≤ 1099511627776) (hp : ∀ x ∈ l, fix Tb md g [sExt x.tag (row fI x.body) (.sp 0 1), ⟨.val, [⟨k0, .sh⟩]⟩] = some ⟨[B (p x)], [], none⟩) {f0 : Fl} (h0 : inFl f0 = true) :
  fix Tb md 351 [R (row fExt l) f0, ⟨.val, [⟨.fn g [k0], .sh⟩]⟩] = some ⟨[I (ixOf p l 0)], [], none⟩ := by
 generalize hm : md = m at hg hp ⊢
 refine fix_fn (fn := ir351) tb_351 rfl rfl (by decide) rfl ?_; simp only [shutArgs, shutS, List.map_cons, List.map_nil, ir351, shut_in h0, List.head?_nil, reduceCtorEq, if_false, sExt, sHello, sAnswer, sEdit, sDeal, sBox, sDialed, sKnown]
 generalize hr : (⟨_, [], none⟩ : Ret) = r
 obtain ⟨ea, hea⟩ := nm (row fExt l)
 rw [← hea]
 intro add sub mul arith eq ne lt le gt ge neg conv mn mx not beq len at' ln bd cut app allS isNil mks set o hP F ho
 have la := F.len_at hea
 cbv
 refine loop_ind hP (σ := List Ext × List Ext × Int × Option Int) (fun s => match s.2.2.2 with | none => [(0, R ea .sh), (1, ⟨.val, [⟨.fn g [k0], .sh⟩]⟩), (4, I 0), (7, I (len ea)), (8, I s.2.2.1)] | some j => [(0, R ea .sh), (1, ⟨.val, [⟨.fn g [k0], .sh⟩]⟩), (4, I 0), (5, I j), (7, I (len ea)), (8, I s.2.2.1)])
  (fun s => At s.2.2.1 s.2.1.length ∧ l = s.2.1 ++ s.1 ∧ ixOf p s.1 (s.2.1.length : Int) = ixOf p l 0) (fun s => s.1.length) (l, [], 0, none) rfl ⟨rfl, rfl, rfl⟩ ?_
 rintro ⟨suf, pre, i, j⟩ ⟨hi, hl', hx⟩ ih
 simp only at hi hl' hx ih
 have hi' : i = (pre.length : Int) := hi
 rw [← hi'] at hx
 cases j <;> cbv <;> (
  cases suf with
  | nil =>
   rw [F.lt_f hi la (by simp [hl'])]; cbv
   rw [← hr, ← hx]; rfl
  | cons x suf =>
   rw [F.lt_t hi la (by simp [hl'])]; cbv
   obtain ⟨e1, he1⟩ := nm (row fI x.body)
   obtain ⟨ix, hix⟩ := nm (pre.length * 2)
   rw [show at' 2 ea i = some (ix, [.int .i64 x.tag, .row () e1]) by rw [hix, he1]; exact F.get hi hea hl' (fun _ => rfl) (by decide)]; cbv
   obtain ⟨v, hv⟩ := nm (p x)
   have c1 : o g [sExt x.tag e1 (.sp 0 1), ⟨.val, [⟨k0, .sh⟩]⟩] = some ⟨[B v], [], none⟩ := by rw [ho, hv, he1]; exact hp x (by rw [hl']; simp)
   rw [hg]; cbv
   rw [c1]; cbv
   have hx1 : ixOf p (x :: suf) i = if p x = true then i else ixOf p suf (i + 1) := rfl
   rw [hx1] at hx
   refine both (fun c => ?_) (fun c => ?_) <;> rw [c] <;> cbv
   ·rw [← hv, if_pos c] at hx
    rw [← hr, ← hx]
   ·rw [← hv, if_neg (by simp [c])] at hx
    refine ih (suf, pre ++ [x], add .i64 i 1, some i) ⟨at_len (F.inc hi (by simp [hl'] at hl; omega)) (by simp), by simp [hl'], ?_⟩ (by simp)
    rw [← hx, hi']
    simp)
theorem ok351_2 (g : Nat) (hg : md g = []) (k0 k1 : V) (p : Ext → Bool) (l : List Ext) (hl : l.length ≤ 1099511627776) (hp : ∀ x ∈ l, fix Tb md g [sExt x.tag (row fI x.body) (.sp 0 1), ⟨.val, [⟨k0, .sh⟩]⟩, ⟨.val, [⟨k1, .sh⟩]⟩] = some ⟨[B (p x)], [], none⟩) {f0 : Fl} (h0 : inFl f0 = true) :
  fix Tb md 351 [R (row fExt l) f0, ⟨.val, [⟨.fn g [k0, k1], .sh⟩]⟩] = some ⟨[I (ixOf p l 0)], [], none⟩ := by
 generalize hm : md = m at hg hp ⊢
 refine fix_fn (fn := ir351) tb_351 rfl rfl (by decide) rfl ?_; simp only [shutArgs, shutS, List.map_cons, List.map_nil, ir351, shut_in h0, List.head?_nil, reduceCtorEq, if_false, sExt, sHello, sAnswer, sEdit, sDeal, sBox, sDialed, sKnown]
 generalize hr : (⟨_, [], none⟩ : Ret) = r
 obtain ⟨ea, hea⟩ := nm (row fExt l)
 rw [← hea]
 intro add sub mul arith eq ne lt le gt ge neg conv mn mx not beq len at' ln bd cut app allS isNil mks set o hP F ho
 have la := F.len_at hea
 cbv
 refine loop_ind hP (σ := List Ext × List Ext × Int × Option Int) (fun s => match s.2.2.2 with | none => [(0, R ea .sh), (1, ⟨.val, [⟨.fn g [k0, k1], .sh⟩]⟩), (4, I 0), (7, I (len ea)), (8, I s.2.2.1)] | some j => [(0, R ea .sh), (1, ⟨.val, [⟨.fn g [k0, k1], .sh⟩]⟩), (4, I 0), (5, I j), (7, I (len ea)), (8, I s.2.2.1)])
  (fun s => At s.2.2.1 s.2.1.length ∧ l = s.2.1 ++ s.1 ∧ ixOf p s.1 (s.2.1.length : Int) = ixOf p l 0) (fun s => s.1.length) (l, [], 0, none) rfl ⟨rfl, rfl, rfl⟩ ?_
 rintro ⟨suf, pre, i, j⟩ ⟨hi, hl', hx⟩ ih
 simp only at hi hl' hx ih
 have hi' : i = (pre.length : Int) := hi
 rw [← hi'] at hx
 cases j <;> cbv <;> (
  cases suf with
  | nil =>
   rw [F.lt_f hi la (by simp [hl'])]; cbv
   rw [← hr, ← hx]; rfl
  | cons x suf =>
   rw [F.lt_t hi la (by simp [hl'])]; cbv
   obtain ⟨e1, he1⟩ := nm (row fI x.body)
   obtain ⟨ix, hix⟩ := nm (pre.length * 2)
   rw [show at' 2 ea i = some (ix, [.int .i64 x.tag, .row () e1]) by rw [hix, he1]; exact F.get hi hea hl' (fun _ => rfl) (by decide)]; cbv
   obtain ⟨v, hv⟩ := nm (p x)
   have c1 : o g [sExt x.tag e1 (.sp 0 1), ⟨.val, [⟨k0, .sh⟩]⟩, ⟨.val, [⟨k1, .sh⟩]⟩] = some ⟨[B v], [], none⟩ := by rw [ho, hv, he1]; exact hp x (by rw [hl']; simp)
   rw [hg]; cbv
   rw [c1]; cbv
   have hx1 : ixOf p (x :: suf) i = if p x = true then i else ixOf p suf (i + 1) := rfl
   rw [hx1] at hx
   refine both (fun c => ?_) (fun c => ?_) <;> rw [c] <;> cbv
   ·rw [← hv, if_pos c] at hx
    rw [← hr, ← hx]
   ·rw [← hv, if_neg (by simp [c])] at hx
    refine ih (suf, pre ++ [x], add .i64 i 1, some i) ⟨at_len (F.inc hi (by simp [hl'] at hl; omega)) (by simp), by simp [hl'], ?_⟩ (by simp)
    rw [← hx, hi']
    simp)
theorem ok352 (e : Ext) (t : Int) {f0 : Fl} (h0 : inFl f0 = true) : fix Tb md 352 [sExt e.tag (row fI e.body) f0, ⟨.val, [⟨.ptr () [.int .i64 t], .sh⟩]⟩] = some ⟨[B (tagP t e)], [], none⟩ := by
 generalize hr : (⟨_, [], none⟩ : Ret) = r
 obtain ⟨ey, hey⟩ := nm (row fI e.body)
 rw [← hey]
 refine fix_fn2 (fn := ir352) tb_352 rfl rfl (by decide) rfl ?_; intro Q hQ; simp only [shutArgs, shutS, List.map_cons, List.map_nil, ir352, shut_in h0, List.head?_nil, reduceCtorEq, if_false, sExt, sHello, sAnswer, sEdit, sDeal, sBox, sDialed, sKnown]
 intro add sub mul arith eq ne lt le gt ge neg conv mn mx not beq len at' ln bd cut app allS isNil mks set o hP F ho
 cbv
 rw [hQ]; cbv
 rw [← hr, F.eq]; rfl
theorem ok290 (l : List Ext) (t : Int) (hl : l.length ≤ 1099511627776) {f0 : Fl} (h0 : inFl f0 = true) : fix Tb md 290 [R (row fExt l) f0, I t] = some ⟨[I (extOf l t)], [], none⟩ := by
 obtain ⟨T, hT⟩ := nm (extOf l t)
 rw [← hT]
 generalize hr : (⟨_, [], none⟩ : Ret) = r
 obtain ⟨ea, hea⟩ := nm (row fExt l)
 rw [← hea]
 refine fix_fn2 (fn := ir290) tb_290 rfl rfl (by decide) rfl ?_; intro Q hQ; simp only [shutArgs, shutS, List.map_cons, List.map_nil, ir290, shut_in h0, List.head?_nil, reduceCtorEq, if_false, sExt, sHello, sAnswer, sEdit, sDeal, sBox, sDialed, sKnown]
 intro add sub mul arith eq ne lt le gt ge neg conv mn mx not beq len at' ln bd cut app allS isNil mks set o hP F ho
 have c1 : o 351 [R ea (.sp 0 0), ⟨.val, [⟨.fn 352 [.ptr () [.int .i64 t]], .sh⟩]⟩] = some ⟨[I T], [], none⟩ := by rw [ho, hT, hea]; exact ok351_1 352 rfl _ (tagP t) l hl (fun x _ => ok352 x t rfl) rfl
 cbv
 rw [c1]; cbv
 rw [hQ]; cbv
 exact congrArg some hr
theorem ok258 (l : List Ext) (hl : l.length ≤ 1099511627776) (w : ∀ y ∈ l, y.body.length ≤ 1099511627776) {f0 : Fl} (h0 : inFl f0 = true) : fix Tb md 258 [R (row fExt l) f0] = some ⟨[B (areEx l)], [], none⟩ := by
 obtain ⟨T, hT⟩ := nm (exOk [] l)
 rw [show areEx l = (T && decide (l.length ≤ 6)) by rw [hT]; rfl]
 generalize hr : (⟨_, [], none⟩ : Ret) = r
 obtain ⟨ea, hea⟩ := nm (row fExt l)
 rw [← hea]
 refine fix_fn2 (fn := ir258) tb_258 rfl rfl (by decide) rfl ?_; intro Q hQ; simp only [shutArgs, shutS, List.map_cons, List.map_nil, ir258, shut_in h0, List.head?_nil, reduceCtorEq, if_false, sExt, sHello, sAnswer, sEdit, sDeal, sBox, sDialed, sKnown]
 intro add sub mul arith eq ne lt le gt ge neg conv mn mx not beq len at' ln bd cut app allS isNil mks set o hP F ho
 have la := F.len_at hea
 have h6 : le (len ea) 6 = decide (l.length ≤ 6) := F.le_n la rfl
 cbv
 refine loop_ind2 hP (σ := List Ext × List Ext × Int × Option (Int × Int × List (List V))) (fun s => match s.2.2.2 with
   | none => [(0, R ea .sh), (2, B false), (5, R ea .sh), (6, I (len ea)), (7, I s.2.2.1)]
   | some j => [(0, R ea .sh), (2, B false), (3, I j.1), (4, ⟨.ptr 45 0, []⟩), (5, R ea .sh), (6, I (len ea)), (7, I s.2.2.1), (45, ⟨.box (), [⟨.int .i64 j.2.1, .sc⟩, ⟨.row () j.2.2, .sh⟩]⟩)]) (fun s => At s.2.2.1 s.2.1.length ∧ l = s.2.1 ++ s.1 ∧ exOk s.2.1 s.1 = T) (fun s => s.1.length) (l, [], 0, none) rfl ⟨rfl, rfl, hT.symm⟩ ?_
 intro c1 Q1 hc1 hQ1
 rintro ⟨suf, pre, i, j⟩ ⟨hi, hl', hb⟩ ih
 simp only at hi hl' hb ih
 rcases j with _ | ⟨j3, j4, j5⟩
 all_goals
  cbv
  cases suf with
  | nil =>
   rw [F.lt_f hi la (by simp [hl'])]; cbv
   rw [hQ1]; cbv
   rw [hQ]; cbv
   rw [h6, ← hr, ← hb]; rfl
  | cons x suf =>
   obtain ⟨ix, hix⟩ := nm (pre.length * 2)
   obtain ⟨e1, he1⟩ := nm (row fI x.body)
   have l1 := F.len_at he1
   have hx := w x (by rw [hl']; simp)
   have hpre : pre.length ≤ 1099511627776 := by rw [hl'] at hl; simp at hl; omega
   have p0 : at' 2 ea i = some (ix, [.int .i64 x.tag, .row () e1]) := by rw [hix, he1]; exact F.get hi hea hl' (fun _ => rfl) (by decide)
   obtain ⟨b1, hb1⟩ := nm (inR x.tag 0 255)
   obtain ⟨b2, hb2⟩ := nm (decide (4 < x.body.length))
   obtain ⟨b3, hb3⟩ := nm (bytes x.body)
   obtain ⟨b4, hb4⟩ := nm (pre.any (tagP x.tag))
   obtain ⟨ep, hep⟩ := nm (row fExt pre)
   obtain ⟨v, hv⟩ := nm (extOf pre x.tag)
   have g4 : gt (len e1) 4 = b2 := by rw [hb2]; exact F.gt_n l1 rfl
   have c1 : o 232 [I x.tag, I 0, I 255] = some ⟨[B b1], [], none⟩ := by rw [ho, hb1]; exact ok232 ..
   have c3 : o 233 [R e1 (.sp 0 0), I 0, I 255] = some ⟨[B b3], [], none⟩ := by rw [ho, hb3, he1]; exact ok233 _ _ _ hx rfl
   have c4 : o 290 [R ep (.sp 0 0), I x.tag] = some ⟨[I v], [], none⟩ := by rw [ho, hv, hep]; exact ok290 _ _ hpre rfl
   have g5 : ge v 0 = b4 := by rw [F.ge, hv, hb4]; exact ixOf_ge (tagP x.tag) pre 0 (by decide)
   have hT' : T = (b1 && !b2 && b3 && !b4 && exOk (pre ++ [x]) suf) := by rw [← hb, hb1, hb2, hb3, hb4]; rfl
   obtain ⟨n, hn⟩ := nm (pre.length)
   have q1 : bd (ln ea) i = some n := by rw [F.ln' hea, hn]; exact F.bd' hi (by rw [hl']; simp)
   have q2 : cut 2 ea n 0 = some ep := by rw [F.cut' hea (fun _ => rfl), hep, hl', hn]; simp
   rw [F.lt_t hi la (by simp [hl'])]; cbv
   rw [p0]; cbv
   rw [c1]; cbv
   refine both (fun d1 => ?_) (fun d1 => ?_) <;> rw [d1] <;> cbv
   ·rw [hQ1]; cbv
    rw [hQ]; cbv
    rw [← hr, show T = false by rw [hT', F.not_t d1]; rfl]; rfl
   rw [q1]; cbv
   rw [q2]; cbv
   rw [c4]; cbv
   rw [g5]; cbv
   refine both (fun d4 => ?_) (fun d4 => ?_) <;> rw [d4] <;> cbv
   ·rw [hQ1]; cbv
    rw [hQ]; cbv
    rw [← hr, show T = false by rw [hT', d4]; simp]; rfl
   rw [g4]; cbv
   refine both (fun d2 => ?_) (fun d2 => ?_) <;> rw [d2] <;> cbv
   ·rw [hQ1]; cbv
    rw [hQ]; cbv
    rw [← hr, show T = false by rw [hT', d2]; simp]; rfl
   rw [c3]; cbv
   refine both (fun d3 => ?_) (fun d3 => ?_) <;> rw [d3] <;> cbv
   ·rw [hQ1]; cbv
    rw [hQ]; cbv
    rw [← hr, show T = false by rw [hT', F.not_t d3]; simp]; rfl
   refine ih (suf, pre ++ [x], add .i64 i 1, some (i, x.tag, e1)) ⟨at_len (F.inc hi (by omega)) (by simp), by simp [hl'], ?_⟩ (by simp)
   rw [hT', F.not_f d1, d2, F.not_f d3, d4]; simp
theorem ok113 (h : Hello) (hv : h.versions.length ≤ 1099511627776) (hl : h.exts.length ≤ 1099511627776) (w : ∀ y ∈ h.exts, y.body.length ≤ 1099511627776) {f0 f1 : Fl} (h0 : inFl f0 = true) (h1 : inFl f1 = true) : fix Tb md 113 [sHello (row fI h.versions) (row fExt h.exts) f0 f1] = some ⟨[B (isHel h)], [], none⟩ := by
 obtain ⟨a, ha⟩ := nm (areVer h.versions)
 obtain ⟨b, hb⟩ := nm (areEx h.exts)
 rw [show isHel h = (a && b) by rw [ha, hb]; rfl]
 generalize hr : (⟨_, [], none⟩ : Ret) = r
 obtain ⟨ea, hea⟩ := nm (row fI h.versions)
 obtain ⟨eb, heb⟩ := nm (row fExt h.exts)
 rw [← hea, ← heb]
 refine fix_fn2 (fn := ir113) tb_113 rfl rfl (by decide) rfl ?_; intro Q hQ; simp only [shutArgs, shutS, List.map_cons, List.map_nil, ir113, shut_in h0, shut_in h1, List.head?_nil, reduceCtorEq, if_false, sExt, sHello, sAnswer, sEdit, sDeal, sBox, sDialed, sKnown]
 intro add sub mul arith eq ne lt le gt ge neg conv mn mx not beq len at' ln bd cut app allS isNil mks set o hP F ho
 have c1 : o 255 [R ea (.sp 0 0)] = some ⟨[B a], [], none⟩ := by rw [ho, ha, hea]; exact ok255 _ hv rfl
 have c2 : o 258 [R eb (.sp 0 0)] = some ⟨[B b], [], none⟩ := by rw [ho, hb, heb]; exact ok258 _ hl w rfl
 cbv
 rw [c1]; cbv
 refine both (fun d1 => ?_) (fun d1 => ?_) <;> rw [d1] <;> cbv
 ·rw [c2]; cbv
  rw [hQ]; cbv
  rw [← hr, d1]; rfl
 ·rw [hQ]; cbv
  rw [← hr, d1]; rfl
theorem ok229 (a b : List Int) (hl : a.length ≤ 1099511627776) {f0 f1 : Fl} (h0 : inFl f0 = true) (h1 : inFl f1 = true) : fix Tb md 229 [R (row fI a) f0, R (row fI b) f1] = some ⟨[B (decide (a = b))], [], none⟩ := by
 refine fix_fn (fn := ir229) tb_229 rfl rfl (by decide) rfl ?_; simp only [shutArgs, shutS, List.map_cons, List.map_nil, ir229, shut_in h0, shut_in h1, List.head?_nil, reduceCtorEq, if_false, sExt, sHello, sAnswer, sEdit, sDeal, sBox, sDialed, sKnown]
 generalize hr : (⟨_, [], none⟩ : Ret) = r
 obtain ⟨ea, hea⟩ := nm (row fI a)
 obtain ⟨eb, heb⟩ := nm (row fI b)
 rw [← hea, ← heb]
 intro add sub mul arith eq ne lt le gt ge neg conv mn mx not beq len at' ln bd cut app allS isNil mks set o hP F ho
 have la := F.len_at hea
 have lb := F.len_at heb
 cbv
 by_cases hab : a.length = b.length
 ·rw [F.ne_f (by unfold At at la lb; omega)]; cbv
  refine loop_ind hP (σ := List Int × List Int × List Int × Int × Option Int) (fun s => match s.2.2.2.2 with | none => [(0, R ea .sh), (1, R eb .sh), (4, B false), (12, I (len ea)), (13, I s.2.2.2.1)] | some j => [(0, R ea .sh), (1, R eb .sh), (4, B false), (5, I j), (12, I (len ea)), (13, I s.2.2.2.1)]) (fun s => At s.2.2.2.1 s.1.length ∧ a = s.1 ++ s.2.1 ∧ b = s.1 ++ s.2.2.1) (fun s => s.2.1.length) ([], a, b, 0, none) rfl ⟨rfl, rfl, rfl⟩ ?_
  rintro ⟨pre, sa, sb, i, j⟩ ⟨hi, ha, hb⟩ ih
  simp only at hi ha hb ih
  have hlen : sa.length = sb.length := by simp [ha, hb] at hab; exact hab
  cases j <;> cbv <;> (
   match sa, sb, hlen, ha, hb with
   | [], [], _, ha, hb =>
    rw [F.lt_f hi la (by simp [ha])]; cbv
    rw [← hr]; simp [ha, hb]
   | x :: sa, y :: sb, _, ha, hb =>
    rw [F.lt_t hi la (by simp [ha])]; cbv
    obtain ⟨ix, hix⟩ := nm (pre.length * 1)
    rw [show at' 1 ea i = some (ix, [.int .i64 x]) by rw [hix]; exact F.get hi hea ha (fun _ => rfl) (by decide)]; cbv
    rw [show at' 1 eb i = some (ix, [.int .i64 y]) by rw [hix]; exact F.get hi heb hb (fun _ => rfl) (by decide)]; cbv
    by_cases hxy : x = y
    ·rw [F.ne_f hxy]; cbv
     refine ih (pre ++ [x], sa, sb, add .i64 i 1, some i) ⟨at_len (F.inc hi (by simp [ha] at hl; omega)) (by simp), by simp [ha], by simp [hb, hxy]⟩ (by simp)
    ·rw [F.ne_t hxy]; cbv
     rw [← hr]; simp [ha, hb, hxy])
 ·rw [F.ne_t (by unfold At at la lb; omega)]; cbv
  rw [← hr]
  simp
  intro e; exact hab (by rw [e])
theorem ext_cons {x y : Ext} {a b : List Ext} : (x :: a = y :: b) ↔ (x.tag = y.tag ∧ x.body = y.body) ∧ a = b := by rw [List.cons.injEq, Ext.eq_iff]
theorem ok291 (x y : Ext) (hx : x.body.length ≤ 1099511627776) {f0 f1 : Fl} (h0 : inFl f0 = true) (h1 : inFl f1 = true) : fix Tb md 291 [sExt x.tag (row fI x.body) f0, sExt y.tag (row fI y.body) f1] = some ⟨[B (decide (x = y))], [], none⟩ := by
 obtain ⟨v, hv⟩ := nm (decide (x.body = y.body))
 obtain ⟨u, hu⟩ := nm (decide (x.tag = y.tag))
 rw [show decide (x = y) = (u && v) by rw [hu, hv]; simp only [Ext.eq_iff]; by_cases k1 : x.tag = y.tag <;> by_cases k2 : x.body = y.body <;> simp [k1, k2]]
 generalize hr : (⟨_, [], none⟩ : Ret) = r
 obtain ⟨ex, hex⟩ := nm (row fI x.body)
 obtain ⟨ey, hey⟩ := nm (row fI y.body)
 rw [← hex, ← hey]
 refine fix_fn2 (fn := ir291) tb_291 rfl rfl (by decide) rfl ?_; intro Q hQ; simp only [shutArgs, shutS, List.map_cons, List.map_nil, ir291, shut_in h0, shut_in h1, List.head?_nil, reduceCtorEq, if_false, sExt, sHello, sAnswer, sEdit, sDeal, sBox, sDialed, sKnown]
 intro add sub mul arith eq ne lt le gt ge neg conv mn mx not beq len at' ln bd cut app allS isNil mks set o hP F ho
 have c1 : o 229 [R ex (.sp 0 0), R ey (.sp 1 0)] = some ⟨[B v], [], none⟩ := by rw [ho, hv, hex, hey]; exact ok229 _ _ hx rfl rfl
 have g1 : eq x.tag y.tag = u := by rw [F.eq, hu]
 cbv
 rw [g1]; cbv
 refine both (fun d1 => ?_) (fun d1 => ?_) <;> rw [d1] <;> cbv
 ·rw [c1]; cbv
  rw [hQ]; cbv
  rw [← hr, d1]; rfl
 ·rw [hQ]; cbv
  rw [← hr, d1]; rfl
theorem ok350 (a b : List Ext) (hl : a.length ≤ 1099511627776) (w : ∀ y ∈ a, y.body.length ≤ 1099511627776) {f0 f1 : Fl} (h0 : inFl f0 = true) (h1 : inFl f1 = true) : fix Tb md 350 [R (row fExt a) f0, R (row fExt b) f1, ⟨.val, [⟨.fn 291 [], .sh⟩]⟩] = some ⟨[B (decide (a = b))], [], none⟩ := by
 obtain ⟨T, hT⟩ := nm (decide (a = b))
 rw [← hT]
 generalize hr : (⟨_, [], none⟩ : Ret) = r
 obtain ⟨ea, hea⟩ := nm (row fExt a)
 obtain ⟨eb, heb⟩ := nm (row fExt b)
 rw [← hea, ← heb]
 obtain ⟨nb, hnb⟩ := nm (decide (a.length ≠ b.length))
 refine fix_fn2 (fn := ir350) tb_350 rfl rfl (by decide) rfl ?_; intro Q hQ; simp only [shutArgs, shutS, List.map_cons, List.map_nil, ir350, shut_in h0, shut_in h1, List.head?_nil, reduceCtorEq, if_false, sExt, sHello, sAnswer, sEdit, sDeal, sBox, sDialed, sKnown]
 intro add sub mul arith eq ne lt le gt ge neg conv mn mx not beq len at' ln bd cut app allS isNil mks set o hP F ho
 have la := F.len_at hea
 have lb := F.len_at heb
 have hne : ne (len ea) (len eb) = nb := by unfold At at la lb; rw [F.ne, la, lb, hnb]; simp; omega
 cbv
 rw [hne]; cbv
 refine both (fun d0 => ?_) (fun d0 => ?_) <;> rw [d0] <;> cbv
 ·rw [hQ]; cbv
  rw [← hr, show T = false by rw [hT]; rw [hnb] at d0; simp at d0 ⊢; intro e; exact d0 (by rw [e])]
 have hab : a.length = b.length := by rw [hnb] at d0; simpa using d0
 refine loop_ind2 hP (σ := List Ext × List Ext × List Ext × Int × Option (Int × (Int × List (List V)) × (Int × List (List V)))) (fun s => match s.2.2.2.2 with
    | none => [(0, R ea .sh), (1, R eb .sh), (2, ⟨.val, [⟨.fn 291 [], .sh⟩]⟩), (6, B false), (15, R ea .sh), (16, I (len ea)), (17, I s.2.2.2.1)]
    | some j => [(0, R ea .sh), (1, R eb .sh), (2, ⟨.val, [⟨.fn 291 [], .sh⟩]⟩), (6, B false), (7, I j.1), (8, ⟨.ptr 40 0, []⟩), (9, ⟨.ptr 41 0, []⟩), (15, R ea .sh), (16, I (len ea)), (17, I s.2.2.2.1), (40, ⟨.box (), [⟨.int .i64 j.2.1.1, .sc⟩, ⟨.row () j.2.1.2, .sh⟩]⟩), (41, ⟨.box (), [⟨.int .i64 j.2.2.1, .sc⟩, ⟨.row () j.2.2.2, .sh⟩]⟩)]) (fun s => At s.2.2.2.1 s.1.length ∧ a = s.1 ++ s.2.1 ∧ b = s.1 ++ s.2.2.1) (fun s => s.2.1.length) ([], a, b, 0, none) rfl ⟨rfl, rfl, rfl⟩ ?_
 intro c1 Q1 hc1 hQ1
 rintro ⟨pre, sa, sb, i, j⟩ ⟨hi, ha, hb⟩ ih
 simp only at hi ha hb ih
 have hlen : sa.length = sb.length := by simp [ha, hb] at hab; exact hab
 rcases j with _ | ⟨j1, ⟨j2, j3⟩, ⟨j4, j5⟩⟩
 all_goals
  cbv
  match sa, sb, hlen, ha, hb with
  | [], [], _, ha, hb =>
   rw [F.lt_f hi la (by simp [ha])]; cbv
   rw [hQ1]; cbv
   rw [hQ]; cbv
   rw [← hr, hT]; simp [ha, hb]
  | x :: sa, y :: sb, _, ha, hb =>
   obtain ⟨ix, hix⟩ := nm (pre.length * 2)
   obtain ⟨ex, hex⟩ := nm (row fI x.body)
   obtain ⟨ey, hey⟩ := nm (row fI y.body)
   have p0 : at' 2 ea i = some (ix, [.int .i64 x.tag, .row () ex]) := by rw [hix, hex]; exact F.get hi hea ha (fun _ => rfl) (by decide)
   have p1 : at' 2 eb i = some (ix, [.int .i64 y.tag, .row () ey]) := by rw [hix, hey]; exact F.get hi heb hb (fun _ => rfl) (by decide)
   obtain ⟨v, hv⟩ := nm (decide (x = y))
   have hT' : T = (v && decide (sa = sb)) := by
    rw [hT, ha, hb, hv]; simp only [List.append_cancel_left_eq, List.cons.injEq]
    by_cases k1 : x = y <;> simp [k1]
   have c2 : o 291 [sExt x.tag ex (.sp 0 1), sExt y.tag ey (.sp 1 1)] = some ⟨[B v], [], none⟩ := by rw [ho, hv, hex, hey]; exact ok291 _ _ (w x (by rw [ha]; simp)) rfl rfl
   rw [F.lt_t hi la (by simp [ha])]; cbv
   rw [p0]; cbv
   rw [p1]; cbv
   rw [c2]; cbv
   refine both (fun d2 => ?_) (fun d2 => ?_) <;> rw [d2] <;> cbv
   ·rw [hQ1]; cbv
    rw [hQ]; cbv
    rw [← hr, hT', F.not_t d2]; simp
   have hxy : x = y := by
    have e2 := F.not_f d2
    rw [hv] at e2
    simpa using e2
   refine ih (pre ++ [x], sa, sb, add .i64 i 1, some (i, (x.tag, ex), (y.tag, ey))) ⟨at_len (F.inc hi (by simp [ha] at hl; omega)) (by simp), by simp [ha], by simp [hb, hxy]⟩ (by simp)
theorem ok273 (a b : List Ext) (hl : a.length ≤ 1099511627776) (w : ∀ y ∈ a, y.body.length ≤ 1099511627776) {f0 f1 : Fl} (h0 : inFl f0 = true) (h1 : inFl f1 = true) : fix Tb md 273 [R (row fExt a) f0, R (row fExt b) f1] = some ⟨[B (decide (a = b))], [], none⟩ := by
 obtain ⟨v, hv⟩ := nm (decide (a = b))
 rw [← hv]
 generalize hr : (⟨_, [], none⟩ : Ret) = r
 obtain ⟨ea, hea⟩ := nm (row fExt a)
 obtain ⟨eb, heb⟩ := nm (row fExt b)
 rw [← hea, ← heb]
 refine fix_fn2 (fn := ir273) tb_273 rfl rfl (by decide) rfl ?_; intro Q hQ; simp only [shutArgs, shutS, List.map_cons, List.map_nil, ir273, shut_in h0, shut_in h1, List.head?_nil, reduceCtorEq, if_false, sExt, sHello, sAnswer, sEdit, sDeal, sBox, sDialed, sKnown]
 intro add sub mul arith eq ne lt le gt ge neg conv mn mx not beq len at' ln bd cut app allS isNil mks set o hP F ho
 have c1 : o 350 [R ea (.sp 0 0), R eb (.sp 1 0), ⟨.val, [⟨.fn 291 [], .sh⟩]⟩] = some ⟨[B v], [], none⟩ := by rw [ho, hv, hea, heb]; exact ok350 _ _ hl w rfl rfl
 cbv
 rw [c1]; cbv
 rw [hQ]; cbv
 exact congrArg some hr
theorem ok131 (a b : Hello) (hvv : a.versions.length ≤ 1099511627776) (hl : a.exts.length ≤ 1099511627776) (w : ∀ y ∈ a.exts, y.body.length ≤ 1099511627776) {f0 f1 g0 g1 : Fl} (q0 : inFl f0 = true) (q1 : inFl f1 = true) (p0 : inFl g0 = true) (p1 : inFl g1 = true) :
  fix Tb md 131 [sHello (row fI a.versions) (row fExt a.exts) f0 f1, sHello (row fI b.versions) (row fExt b.exts) g0 g1] = some ⟨[B (decide (a = b))], [], none⟩ := by
 obtain ⟨u, hu⟩ := nm (decide (a.versions = b.versions))
 obtain ⟨v, hv⟩ := nm (decide (a.exts = b.exts))
 rw [show decide (a = b) = (u && v) by rw [hu, hv]; simp only [Hello.eq_iff]; by_cases k1 : a.versions = b.versions <;> by_cases k2 : a.exts = b.exts <;> simp [k1, k2]]
 generalize hr : (⟨_, [], none⟩ : Ret) = r
 obtain ⟨d0, hd0⟩ := nm (row fI a.versions)
 obtain ⟨e0, he0⟩ := nm (row fI b.versions)
 obtain ⟨d1, hd1⟩ := nm (row fExt a.exts)
 obtain ⟨e1, he1⟩ := nm (row fExt b.exts)
 rw [← hd0, ← he0, ← hd1, ← he1]
 refine fix_fn2 (fn := ir131) tb_131 rfl rfl (by decide) rfl ?_; intro Q hQ; simp only [shutArgs, shutS, List.map_cons, List.map_nil, ir131, shut_in q0, shut_in q1, shut_in p0, shut_in p1, List.head?_nil, reduceCtorEq, if_false, sExt, sHello, sAnswer, sEdit, sDeal, sBox, sDialed, sKnown]
 intro add sub mul arith eq ne lt le gt ge neg conv mn mx not beq len at' ln bd cut app allS isNil mks set o hP F ho
 have c1 : o 229 [R d0 (.sp 0 0), R e0 (.sp 1 0)] = some ⟨[B u], [], none⟩ := by rw [ho, hu, hd0, he0]; exact ok229 _ _ hvv rfl rfl
 have c2 : o 273 [R d1 (.sp 0 0), R e1 (.sp 1 0)] = some ⟨[B v], [], none⟩ := by rw [ho, hv, hd1, he1]; exact ok273 _ _ hl w rfl rfl
 cbv
 rw [c1]; cbv
 refine both (fun d1 => ?_) (fun d1 => ?_) <;> rw [d1] <;> cbv
 ·rw [c2]; cbv
  rw [hQ]; cbv
  rw [← hr, d1]; rfl
 ·rw [hQ]; cbv
  rw [← hr, d1]; rfl
def sel {α β : Type} (P : α → Bool) (g : α → β) (l : List α) : List β := (l.filter P).map g
theorem sel_t {α β : Type} {P : α → Bool} {g : α → β} {a : List α} {x : α} (h : P x = true) : sel P g (a ++ [x]) = sel P g a ++ [g x] := by unfold sel; rw [List.filter_append, List.filter_cons, h]; simp
theorem sel_f {α β : Type} {P : α → Bool} {g : α → β} {a : List α} {x : α} (h : P x = false) : sel P g (a ++ [x]) = sel P g a := by unfold sel; rw [List.filter_append, List.filter_cons, h]; simp
theorem sel_len {α β : Type} {P : α → Bool} {g : α → β} {a : List α} : (sel P g a).length ≤ a.length := by unfold sel; rw [List.length_map]; exact List.length_filter_le _ _
def hasI (l : List Int) (n : Int) : Bool := l.any fun y => decide (y = n)
def idE (e : Ext) : Ext := e
def idI (n : Int) : Int := n
theorem sel_idE {P : Ext → Bool} {l : List Ext} : sel P idE l = l.filter P := by unfold sel idE; simp
theorem sel_idI {P : Int → Bool} {l : List Int} : sel P idI l = l.filter P := by unfold sel idI; simp
theorem ok285 (l : List Int) (n : Int) (hl : l.length ≤ 1099511627776) {f0 : Fl} (h0 : inFl f0 = true) : fix Tb md 285 [R (row fI l) f0, I n] = some ⟨[B (hasI l n)], [], none⟩ := by
 obtain ⟨T, hT⟩ := nm (hasI l n)
 rw [← hT]
 generalize hr : (⟨_, [], none⟩ : Ret) = r
 obtain ⟨ea, hea⟩ := nm (row fI l)
 rw [← hea]
 refine fix_fn2 (fn := ir285) tb_285 rfl rfl (by decide) rfl ?_; intro Q hQ; simp only [shutArgs, shutS, List.map_cons, List.map_nil, ir285, shut_in h0, List.head?_nil, reduceCtorEq, if_false, sExt, sHello, sAnswer, sEdit, sDeal, sBox, sDialed, sKnown]
 intro add sub mul arith eq ne lt le gt ge neg conv mn mx not beq len at' ln bd cut app allS isNil mks set o hP F ho
 have la := F.len_at hea
 cbv
 refine loop_ind2 hP (σ := List Int × List Int × Int) (fun s => [(0, R ea .sh), (1, I n), (4, B false), (5, I s.2.2)]) (fun s => At s.2.2 s.2.1.length ∧ l = s.2.1 ++ s.1 ∧ hasI s.1 n = T) (fun s => s.1.length) (l, [], 0) rfl ⟨rfl, rfl, hT.symm⟩ ?_
 intro c1 Q1 hc1 hQ1
 rintro ⟨suf, pre, i⟩ ⟨hi, hl', hb⟩ ih
 simp only at hi hl' hb ih
 cbv
 cases suf with
 | nil =>
  rw [F.lt_f hi la (by simp [hl'])]; cbv
  rw [hQ1]; cbv
  rw [hQ]; cbv
  rw [← hr, ← hb]; rfl
 | cons x suf =>
  obtain ⟨v, hv⟩ := nm (decide (x = n))
  have hT' : T = (v || hasI suf n) := by rw [← hb, hv]; rfl
  obtain ⟨ix, hix⟩ := nm (pre.length * 1)
  rw [F.lt_t hi la (by simp [hl'])]; cbv
  rw [show at' 1 ea i = some (ix, [.int .i64 x]) by rw [hix]; exact F.get hi hea hl' (fun _ => rfl) (by decide)]; cbv
  rw [show eq x n = v by rw [F.eq, hv]]; cbv
  refine both (fun d => ?_) (fun d => ?_) <;> rw [d] <;> cbv
  ·rw [hQ1]; cbv
   rw [hQ]; cbv
   rw [← hr, hT', d]; rfl
  ·refine ih (suf, pre ++ [x], add .i64 i 1) ⟨at_len (F.inc hi (by simp [hl'] at hl; omega)) (by simp), by simp [hl'], ?_⟩ (by simp)
   rw [hT', d]; rfl
def notIn (b : List Int) (x : Int) : Bool := !hasI b x
def tagIn (b : List Int) (e : Ext) : Bool := hasI b e.tag
end Go.Vm
