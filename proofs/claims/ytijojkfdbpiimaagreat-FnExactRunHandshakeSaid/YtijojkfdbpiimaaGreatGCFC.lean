/- What the functions answer. -/
import Derived.Test.YtijojkfdbpiimaaGreatGCTab
import Derived.Test.YtijojkfdbpiimaaGreatGCFA
import Derived.Test.YtijojkfdbpiimaaGreatGCFB
set_option maxHeartbeats 4000000
set_option maxRecDepth 10000
set_option linter.unusedVariables false
set_option linter.unusedSimpArgs false
namespace Go.Vm
theorem ok351_0 (g : Nat) (hg : md g = []) (p : Ext → Bool) (l : List Ext) (hl : l.length ≤ 1099511627776) (hp : ∀ x ∈ l, fix Tb md g [sExt x.tag (row fI x.body) (.sp 0 1)] = some ⟨[B (p x)], [], none⟩) {f0 : Fl} (h0 : inFl f0 = true) :
  fix Tb md 351 [R (row fExt l) f0, ⟨.val, [⟨.fn g [], .sh⟩]⟩] = some ⟨[I (ixOf p l 0)], [], none⟩ := by
 generalize hm : md = m at hg hp ⊢
 refine fix_fn (fn := ir351) tb_351 rfl rfl (by decide) rfl ?_; simp only [shutArgs, shutS, List.map_cons, List.map_nil, ir351, shut_in h0, List.head?_nil, reduceCtorEq, if_false, sExt, sHello, sAnswer, sEdit, sDeal, sBox, sDialed, sKnown]
 generalize hr : (⟨_, [], none⟩ : Ret) = r
 obtain ⟨ea, hea⟩ := nm (row fExt l)
 rw [← hea]
 intro add sub mul arith eq ne lt le gt ge neg conv mn mx not beq len at' ln bd cut app allS isNil mks set o hP F ho
 have la := F.len_at hea
 cbv
 refine loop_ind hP (σ := List Ext × List Ext × Int × Option Int) (fun s => match s.2.2.2 with | none => [(0, R ea .sh), (1, ⟨.val, [⟨.fn g [], .sh⟩]⟩), (4, I 0), (7, I (len ea)), (8, I s.2.2.1)] | some j => [(0, R ea .sh), (1, ⟨.val, [⟨.fn g [], .sh⟩]⟩), (4, I 0), (5, I j), (7, I (len ea)), (8, I s.2.2.1)])
  (fun s => At s.2.2.1 s.2.1.length ∧ l = s.2.1 ++ s.1 ∧ ixOf p s.1 (s.2.1.length : Int) = ixOf p l 0) (fun s => s.1.length) (l, [], 0, none) rfl ⟨rfl, rfl, rfl⟩ ?_
 rintro ⟨suf, pre, i, j⟩ ⟨hi, hl', hx⟩ ih
 simp only at hi hl' hx ih
 have hi' : i = (pre.length : Int) := hi
 rw [← hi'] at hx
 cases j <;> cbv <;> (
  cases suf with
  | nil =>
   rw [F.lt_f hi la (by simp [hl'])]; cbv
   rw [← hr, ← hx]; rfl
  | cons x suf =>
   rw [F.lt_t hi la (by simp [hl'])]; cbv
   obtain ⟨e1, he1⟩ := nm (row fI x.body)
   obtain ⟨ix, hix⟩ := nm (pre.length * 2)
   rw [show at' 2 ea i = some (ix, [.int .i64 x.tag, .row () e1]) by rw [hix, he1]; exact F.get hi hea hl' (fun _ => rfl) (by decide)]; cbv
   obtain ⟨v, hv⟩ := nm (p x)
   have c1 : o g [sExt x.tag e1 (.sp 0 1)] = some ⟨[B v], [], none⟩ := by rw [ho, hv, he1]; exact hp x (by rw [hl']; simp)
   rw [hg]; cbv
   rw [c1]; cbv
   have hx1 : ixOf p (x :: suf) i = if p x = true then i else ixOf p suf (i + 1) := rfl
   rw [hx1] at hx
   refine both (fun c => ?_) (fun c => ?_) <;> rw [c] <;> cbv
   ·rw [← hv, if_pos c] at hx
    rw [← hr, ← hx]
   ·rw [← hv, if_neg (by simp [c])] at hx
    refine ih (suf, pre ++ [x], add .i64 i 1, some i) ⟨at_len (F.inc hi (by simp [hl'] at hl; omega)) (by simp), by simp [hl'], ?_⟩ (by simp)
    rw [← hx, hi']
    simp)
theorem ok351_1 (g : Nat) (hg : md g = []) (k0 : V) (p : Ext → Bool) (l : List Ext) (hl : l.length ≤ 1099511627776) (hp : ∀ x ∈ l, fix Tb md g [sExt x.tag (row fI x.body) (.sp 0 1), ⟨.val, [⟨k0, .sh⟩]⟩] = some ⟨[B (p x)], [], none⟩) {f0 : Fl} (h0 : inFl f0 = true) :
  fix Tb md 351 [R (row fExt l) f0, ⟨.val, [⟨.fn g [k0], .sh⟩]⟩] = some ⟨[I (ixOf p l 0)], [], none⟩ := by
 generalize hm : md = m at hg hp ⊢
 refine fix_fn (fn := ir351) tb_351 rfl rfl (by decide) rfl ?_; simp only [shutArgs, shutS, List.map_cons, List.map_nil, ir351, shut_in h0, List.head?_nil, reduceCtorEq, if_false, sExt, sHello, sAnswer, sEdit, sDeal, sBox, sDialed, sKnown]
 generalize hr : (⟨_, [], none⟩ : Ret) = r
 obtain ⟨ea, hea⟩ := nm (row fExt l)
 rw [← hea]
 intro add sub mul arith eq ne lt le gt ge neg conv mn mx not beq len at' ln bd cut app allS isNil mks set o hP F ho
 have la := F.len_at hea
 cbv
 refine loop_ind hP (σ := List Ext × List Ext × Int × Option Int) (fun s => match s.2.2.2 with | none => [(0, R ea .sh), (1, ⟨.val, [⟨.fn g [k0], .sh⟩]⟩), (4, I 0), (7, I (len ea)), (8, I s.2.2.1)] | some j => [(0, R ea .sh), (1, ⟨.val, [⟨.fn g [k0], .sh⟩]⟩), (4, I 0), (5, I j), (7, I (len ea)), (8, I s.2.2.1)])
  (fun s => At s.2.2.1 s.2.1.length ∧ l = s.2.1 ++ s.1 ∧ ixOf p s.1 (s.2.1.length : Int) = ixOf p l 0) (fun s => s.1.length) (l, [], 0, none) rfl ⟨rfl, rfl, rfl⟩ ?_
 rintro ⟨suf, pre, i, j⟩ ⟨hi, hl', hx⟩ ih
 simp only at hi hl' hx ih
 have hi' : i = (pre.length : Int) := hi
 rw [← hi'] at hx
 cases j <;> cbv <;> (
  cases suf with
  | nil =>
   rw [F.lt_f hi la (by simp [hl'])]; cbv
   rw [← hr, ← hx]; rfl
  | cons x suf =>
   rw [F.lt_t hi la (by simp [hl'])]; cbv
   obtain ⟨e1, he1⟩ := nm (row fI x.body)
   obtain ⟨ix, hix⟩ := nm (pre.length * 2)
   rw [show at' 2 ea i = some (ix, [.int .i64 x.tag, .row () e1]) by rw [hix, he1]; exact F.get hi hea hl' (fun _ => rfl) (by decide)]; cbv
   obtain ⟨v, hv⟩ := nm (p x)
   have c1 : o g [sExt x.tag e1 (.sp 0 1), ⟨.val, [⟨k0, .sh⟩]⟩] = some ⟨[B v], [], none⟩ := by rw [ho, hv, he1]; exact hp x (by rw [hl']; simp)
   rw [hg]; cbv
   rw [c1]; cbv
   have hx1 : ixOf p (x :: suf) i = if p x = true then i else ixOf p suf (i + 1) := rfl
   rw [hx1] at hx
   refine both (fun c => ?_) (fun c => ?_) <;> rw [c] <;> cbv
   ·rw [← hv, if_pos c] at hx
    rw [← hr, ← hx]
   ·rw [← hv, if_neg (by simp [c])] at hx
    refine ih (suf, pre ++ [x], add .i64 i 1, some i) ⟨at_len (F.inc hi (by simp [hl'] at hl; omega)) (by simp), by simp [hl'], ?_⟩ (by simp)
    rw [← hx, hi']
    simp)
theorem ok351_2 (g : Nat) (hg : md g = []) (k0 k1 : V) (p : Ext → Bool) (l : List Ext) (hl : l.length ≤ 1099511627776) (hp : ∀ x ∈ l, fix Tb md g [sExt x.tag (row fI x.body) (.sp 0 1), ⟨.val, [⟨k0, .sh⟩]⟩, ⟨.val, [⟨k1, .sh⟩]⟩] = some ⟨[B (p x)], [], none⟩) {f0 : Fl} (h0 : inFl f0 = true) :
  fix Tb md 351 [R (row fExt l) f0, ⟨.val, [⟨.fn g [k0, k1], .sh⟩]⟩] = some ⟨[I (ixOf p l 0)], [], none⟩ := by
 generalize hm : md = m at hg hp ⊢
 refine fix_fn (fn := ir351) tb_351 rfl rfl (by decide) rfl ?_; simp only [shutArgs, shutS, List.map_cons, List.map_nil, ir351, shut_in h0, List.head?_nil, reduceCtorEq, if_false, sExt, sHello, sAnswer, sEdit, sDeal, sBox, sDialed, sKnown]
 generalize hr : (⟨_, [], none⟩ : Ret) = r
 obtain ⟨ea, hea⟩ := nm (row fExt l)
 rw [← hea]
 intro add sub mul arith eq ne lt le gt ge neg conv mn mx not beq len at' ln bd cut app allS isNil mks set o hP F ho
 have la := F.len_at hea
 cbv
 refine loop_ind hP (σ := List Ext × List Ext × Int × Option Int) (fun s => match s.2.2.2 with | none => [(0, R ea .sh), (1, ⟨.val, [⟨.fn g [k0, k1], .sh⟩]⟩), (4, I 0), (7, I (len ea)), (8, I s.2.2.1)] | some j => [(0, R ea .sh), (1, ⟨.val, [⟨.fn g [k0, k1], .sh⟩]⟩), (4, I 0), (5, I j), (7, I (len ea)), (8, I s.2.2.1)])
  (fun s => At s.2.2.1 s.2.1.length ∧ l = s.2.1 ++ s.1 ∧ ixOf p s.1 (s.2.1.length : Int) = ixOf p l 0) (fun s => s.1.length) (l, [], 0, none) rfl ⟨rfl, rfl, rfl⟩ ?_
 rintro ⟨suf, pre, i, j⟩ ⟨hi, hl', hx⟩ ih
 simp only at hi hl' hx ih
 have hi' : i = (pre.length : Int) := hi
 rw [← hi'] at hx
 cases j <;> cbv <;> (
  cases suf with
  | nil =>
   rw [F.lt_f hi la (by simp [hl'])]; cbv
   rw [← hr, ← hx]; rfl
  | cons x suf =>
   rw [F.lt_t hi la (by simp [hl'])]; cbv
   obtain ⟨e1, he1⟩ := nm (row fI x.body)
   obtain ⟨ix, hix⟩ := nm (pre.length * 2)
   rw [show at' 2 ea i = some (ix, [.int .i64 x.tag, .row () e1]) by rw [hix, he1]; exact F.get hi hea hl' (fun _ => rfl) (by decide)]; cbv
   obtain ⟨v, hv⟩ := nm (p x)
   have c1 : o g [sExt x.tag e1 (.sp 0 1), ⟨.val, [⟨k0, .sh⟩]⟩, ⟨.val, [⟨k1, .sh⟩]⟩] = some ⟨[B v], [], none⟩ := by rw [ho, hv, he1]; exact hp x (by rw [hl']; simp)
   rw [hg]; cbv
   rw [c1]; cbv
   have hx1 : ixOf p (x :: suf) i = if p x = true then i else ixOf p suf (i + 1) := rfl
   rw [hx1] at hx
   refine both (fun c => ?_) (fun c => ?_) <;> rw [c] <;> cbv
   ·rw [← hv, if_pos c] at hx
    rw [← hr, ← hx]
   ·rw [← hv, if_neg (by simp [c])] at hx
    refine ih (suf, pre ++ [x], add .i64 i 1, some i) ⟨at_len (F.inc hi (by simp [hl'] at hl; omega)) (by simp), by simp [hl'], ?_⟩ (by simp)
    rw [← hx, hi']
    simp)
theorem ok352 (e : Ext) (t : Int) {f0 : Fl} (h0 : inFl f0 = true) : fix Tb md 352 [sExt e.tag (row fI e.body) f0, ⟨.val, [⟨.ptr () [.int .i64 t], .sh⟩]⟩] = some ⟨[B (tagP t e)], [], none⟩ := by
 generalize hr : (⟨_, [], none⟩ : Ret) = r
 obtain ⟨ey, hey⟩ := nm (row fI e.body)
 rw [← hey]
 refine fix_fn2 (fn := ir352) tb_352 rfl rfl (by decide) rfl ?_; intro Q hQ; simp only [shutArgs, shutS, List.map_cons, List.map_nil, ir352, shut_in h0, List.head?_nil, reduceCtorEq, if_false, sExt, sHello, sAnswer, sEdit, sDeal, sBox, sDialed, sKnown]
 intro add sub mul arith eq ne lt le gt ge neg conv mn mx not beq len at' ln bd cut app allS isNil mks set o hP F ho
 cbv
 rw [hQ]; cbv
 rw [← hr, F.eq]; rfl
theorem ok290 (l : List Ext) (t : Int) (hl : l.length ≤ 1099511627776) {f0 : Fl} (h0 : inFl f0 = true) : fix Tb md 290 [R (row fExt l) f0, I t] = some ⟨[I (extOf l t)], [], none⟩ := by
 obtain ⟨T, hT⟩ := nm (extOf l t)
 rw [← hT]
 generalize hr : (⟨_, [], none⟩ : Ret) = r
 obtain ⟨ea, hea⟩ := nm (row fExt l)
 rw [← hea]
 refine fix_fn2 (fn := ir290) tb_290 rfl rfl (by decide) rfl ?_; intro Q hQ; simp only [shutArgs, shutS, List.map_cons, List.map_nil, ir290, shut_in h0, List.head?_nil, reduceCtorEq, if_false, sExt, sHello, sAnswer, sEdit, sDeal, sBox, sDialed, sKnown]
 intro add sub mul arith eq ne lt le gt ge neg conv mn mx not beq len at' ln bd cut app allS isNil mks set o hP F ho
 have c1 : o 351 [R ea (.sp 0 0), ⟨.val, [⟨.fn 352 [.ptr () [.int .i64 t]], .sh⟩]⟩] = some ⟨[I T], [], none⟩ := by rw [ho, hT, hea]; exact ok351_1 352 rfl _ (tagP t) l hl (fun x _ => ok352 x t rfl) rfl
 cbv
 rw [c1]; cbv
 rw [hQ]; cbv
 exact congrArg some hr
theorem ok258 (l : List Ext) (hl : l.length ≤ 1099511627776) (w : ∀ y ∈ l, y.body.length ≤ 1099511627776) {f0 : Fl} (h0 : inFl f0 = true) : fix Tb md 258 [R (row fExt l) f0] = some ⟨[B (areEx l)], [], none⟩ := by
 obtain ⟨T, hT⟩ := nm (exOk [] l)
 rw [show areEx l = (T && decide (l.length ≤ 6)) by rw [hT]; rfl]
 generalize hr : (⟨_, [], none⟩ : Ret) = r
 obtain ⟨ea, hea⟩ := nm (row fExt l)
 rw [← hea]
 refine fix_fn2 (fn := ir258) tb_258 rfl rfl (by decide) rfl ?_; intro Q hQ; simp only [shutArgs, shutS, List.map_cons, List.map_nil, ir258, shut_in h0, List.head?_nil, reduceCtorEq, if_false, sExt, sHello, sAnswer, sEdit, sDeal, sBox, sDialed, sKnown]
 intro add sub mul arith eq ne lt le gt ge neg conv mn mx not beq len at' ln bd cut app allS isNil mks set o hP F ho
 have la := F.len_at hea
 have h6 : le (len ea) 6 = decide (l.length ≤ 6) := F.le_n la rfl
 cbv
 refine loop_ind2 hP (σ := List Ext × List Ext × Int × Option (Int × Int × List (List V))) (fun s => match s.2.2.2 with
   | none => [(0, R ea .sh), (2, B false), (5, R ea .sh), (6, I (len ea)), (7, I s.2.2.1)]
   | some j => [(0, R ea .sh), (2, B false), (3, I j.1), (4, ⟨.ptr 45 0, []⟩), (5, R ea .sh), (6, I (len ea)), (7, I s.2.2.1), (45, ⟨.box (), [⟨.int .i64 j.2.1, .sc⟩, ⟨.row () j.2.2, .sh⟩]⟩)]) (fun s => At s.2.2.1 s.2.1.length ∧ l = s.2.1 ++ s.1 ∧ exOk s.2.1 s.1 = T) (fun s => s.1.length) (l, [], 0, none) rfl ⟨rfl, rfl, hT.symm⟩ ?_
 intro c1 Q1 hc1 hQ1
 rintro ⟨suf, pre, i, j⟩ ⟨hi, hl', hb⟩ ih
 simp only at hi hl' hb ih
 rcases j with _ | ⟨j3, j4, j5⟩
 all_goals
  cbv
  cases suf with
  | nil =>
   rw [F.lt_f hi la (by simp [hl'])]; cbv
   rw [hQ1]; cbv
   rw [hQ]; cbv
   rw [h6, ← hr, ← hb]; rfl
  | cons x suf =>
   obtain ⟨ix, hix⟩ := nm (pre.length * 2)
   obtain ⟨e1, he1⟩ := nm (row fI x.body)
   have l1 := F.len_at he1
   have hx := w x (by rw [hl']; simp)
   have hpre : pre.length ≤ 1099511627776 := by rw [hl'] at hl; simp at hl; omega
   have p0 : at' 2 ea i = some (ix, [.int .i64 x.tag, .row () e1]) := by rw [hix, he1]; exact F.get hi hea hl' (fun _ => rfl) (by decide)
   obtain ⟨b1, hb1⟩ := nm (inR x.tag 0 255)
   obtain ⟨b2, hb2⟩ := nm (decide (4 < x.body.length))
   obtain ⟨b3, hb3⟩ := nm (bytes x.body)
   obtain ⟨b4, hb4⟩ := nm (pre.any (tagP x.tag))
   obtain ⟨ep, hep⟩ := nm (row fExt pre)
   obtain ⟨v, hv⟩ := nm (extOf pre x.tag)
   have g4 : gt (len e1) 4 = b2 := by rw [hb2]; exact F.gt_n l1 rfl
   have c1 : o 232 [I x.tag, I 0, I 255] = some ⟨[B b1], [], none⟩ := by rw [ho, hb1]; exact ok232 ..
   have c3 : o 233 [R e1 (.sp 0 0), I 0, I 255] = some ⟨[B b3], [], none⟩ := by rw [ho, hb3, he1]; exact ok233 _ _ _ hx rfl
   have c4 : o 290 [R ep (.sp 0 0), I x.tag] = some ⟨[I v], [], none⟩ := by rw [ho, hv, hep]; exact ok290 _ _ hpre rfl
   have g5 : ge v 0 = b4 := by rw [F.ge, hv, hb4]; exact ixOf_ge (tagP x.tag) pre 0 (by decide)
   have hT' : T = (b1 && !b2 && b3 && !b4 && exOk (pre ++ [x]) suf) := by rw [← hb, hb1, hb2, hb3, hb4]; rfl
   obtain ⟨n, hn⟩ := nm (pre.length)
   have q1 : bd (ln ea) i = some n := by rw [F.ln' hea, hn]; exact F.bd' hi (by rw [hl']; simp)
   have q2 : cut 2 ea n 0 = some ep := by rw [F.cut' hea (fun _ => rfl), hep, hl', hn]; simp
   rw [F.lt_t hi la (by simp [hl'])]; cbv
   rw [p0]; cbv
   rw [c1]; cbv
   refine both (fun d1 => ?_) (fun d1 => ?_) <;> rw [d1] <;> cbv
   ·rw [hQ1]; cbv
    rw [hQ]; cbv
    rw [← hr, show T = false by rw [hT', F.not_t d1]; rfl]; rfl
   rw [q1]; cbv
   rw [q2]; cbv
   rw [c4]; cbv
   rw [g5]; cbv
   refine both (fun d4 => ?_) (fun d4 => ?_) <;> rw [d4] <;> cbv
   ·rw [hQ1]; cbv
    rw [hQ]; cbv
    rw [← hr, show T = false by rw [hT', d4]; simp]; rfl
   rw [g4]; cbv
   refine both (fun d2 => ?_) (fun d2 => ?_) <;> rw [d2] <;> cbv
   ·rw [hQ1]; cbv
    rw [hQ]; cbv
    rw [← hr, show T = false by rw [hT', d2]; simp]; rfl
   rw [c3]; cbv
   refine both (fun d3 => ?_) (fun d3 => ?_) <;> rw [d3] <;> cbv
   ·rw [hQ1]; cbv
    rw [hQ]; cbv
    rw [← hr, show T = false by rw [hT', F.not_t d3]; simp]; rfl
   refine ih (suf, pre ++ [x], add .i64 i 1, some (i, x.tag, e1)) ⟨at_len (F.inc hi (by omega)) (by simp), by simp [hl'], ?_⟩ (by simp)
   rw [hT', F.not_f d1, d2, F.not_f d3, d4]; simp
theorem ok113 (h : Hello) (hv : h.versions.length ≤ 1099511627776) (hl : h.exts.length ≤ 1099511627776) (w : ∀ y ∈ h.exts, y.body.length ≤ 1099511627776) {f0 f1 : Fl} (h0 : inFl f0 = true) (h1 : inFl f1 = true) : fix Tb md 113 [sHello (row fI h.versions) (row fExt h.exts) f0 f1] = some ⟨[B (isHel h)], [], none⟩ := by
 obtain ⟨a, ha⟩ := nm (areVer h.versions)
 obtain ⟨b, hb⟩ := nm (areEx h.exts)
 rw [show isHel h = (a && b) by rw [ha, hb]; rfl]
 generalize hr : (⟨_, [], none⟩ : Ret) = r
 obtain ⟨ea, hea⟩ := nm (row fI h.versions)
 obtain ⟨eb, heb⟩ := nm (row fExt h.exts)
 rw [← hea, ← heb]
 refine fix_fn2 (fn := ir113) tb_113 rfl rfl (by decide) rfl ?_; intro Q hQ; simp only [shutArgs, shutS, List.map_cons, List.map_nil, ir113, shut_in h0, shut_in h1, List.head?_nil, reduceCtorEq, if_false, sExt, sHello, sAnswer, sEdit, sDeal, sBox, sDialed, sKnown]
 intro add sub mul arith eq ne lt le gt ge neg conv mn mx not beq len at' ln bd cut app allS isNil mks set o hP F ho
 have c1 : o 255 [R ea (.sp 0 0)] = some ⟨[B a], [], none⟩ := by rw [ho, ha, hea]; exact ok255 _ hv rfl
 have c2 : o 258 [R eb (.sp 0 0)] = some ⟨[B b], [], none⟩ := by rw [ho, hb, heb]; exact ok258 _ hl w rfl
 cbv
 rw [c1]; cbv
 refine both (fun d1 => ?_) (fun d1 => ?_) <;> rw [d1] <;> cbv
 ·rw [c2]; cbv
  rw [hQ]; cbv
  rw [← hr, d1]; rfl
 ·rw [hQ]; cbv
  rw [← hr, d1]; rfl
def onTag (p : Int → Bool) (e : Ext) : Bool := p e.tag
theorem ok264_0 (g : Nat) (hg : md g = []) (p : Int → Bool) (l : List Ext) (hl : l.length ≤ 1073741824) (w : ∀ y ∈ l, y.body.length ≤ 1099511627776) (hp : ∀ x ∈ l, fix Tb md g [I x.tag] = some ⟨[B (p x.tag)], [], none⟩) {f0 : Fl} (h0 : inFl f0 = true) : fix Tb md 264 [R (row fExt l) f0, ⟨.val, [⟨.fn g [], .sh⟩]⟩] = some ⟨[R (row fExt (sel (onTag p) idE l)) (.ow false)], [], none⟩ := by
 generalize hm_ : md = m_ at hg hp ⊢
 obtain ⟨et, het⟩ := nm (row fExt (sel (onTag p) idE l))
 rw [← het]
 generalize hr : (⟨_, [], none⟩ : Ret) = r
 obtain ⟨ea, hea⟩ := nm (row fExt l)
 rw [← hea]
 refine fix_fn2 (fn := ir264) tb_264 rfl rfl (by decide) rfl ?_; intro Q hQ; simp only [shutArgs, shutS, List.map_cons, List.map_nil, ir264, shut_in h0, List.head?_nil, reduceCtorEq, if_false, sExt, sHello, sAnswer, sEdit, sDeal, sBox, sDialed, sKnown]
 intro add sub mul arith eq ne lt le gt ge neg conv mn mx not beq len at' ln bd cut app allS isNil mks set o hP F ho
 have la := F.len_at hea
 cbv
 refine loop_ind2 hP (σ := List Ext × List Ext × List (List V) × Int × Option (Int × List (List V))) (fun s => match s.2.2.2.2 with | none => [(0, R ea .sh), (1, ⟨.val, [⟨.fn g [], .sh⟩]⟩), (4, R [] .nl), (5, R s.2.2.1 (.ow false)), (9, R ea .sh), (10, I (len ea)), (11, I s.2.2.2.1)] | some j => [(0, R ea .sh), (1, ⟨.val, [⟨.fn g [], .sh⟩]⟩), (4, R [] .nl), (5, R s.2.2.1 (.ow false)), (7, ⟨.ptr 38 0, []⟩), (9, R ea .sh), (10, I (len ea)), (11, I s.2.2.2.1), (38, ⟨.box (), [⟨.int .i64 j.1, .sc⟩, ⟨.row () j.2, .sh⟩]⟩)]) (fun s => At s.2.2.2.1 s.2.1.length ∧ l = s.2.1 ++ s.1 ∧ s.2.2.1 = row fExt (sel (onTag p) idE s.2.1)) (fun s => s.1.length) (l, [], [], 0, none) rfl ⟨rfl, rfl, rfl⟩ ?_
 intro c1 Q1 hc1 hQ1
 rintro ⟨suf, pre, eo, i, j⟩ ⟨hi, hl', hb⟩ ih
 simp only at hi hl' hb ih
 rcases j with _ | ⟨j1, j2⟩
 all_goals
  cbv
  cases suf with
  | nil =>
   rw [F.lt_f hi la (by simp [hl'])]; cbv
   rw [hQ1]; cbv
   rw [hQ]; cbv
   rw [← hr, het, hb, hl', List.append_nil]
  | cons x suf =>
   obtain ⟨ix, hix⟩ := nm (pre.length * 2)
   have hpre : pre.length ≤ 1073741824 := by rw [hl'] at hl; simp at hl; omega
   have hs : (sel (onTag p) idE pre).length ≤ pre.length := sel_len
   have hi' : At (add .i64 i 1) (pre ++ [x]).length := at_len (F.inc hi (by omega)) (by simp)
   have hl2 : l = (pre ++ [x]) ++ suf := by rw [hl']; simp
   have hmem : x ∈ l := by rw [hl']; simp
   obtain ⟨e1, he1⟩ := nm (row fI x.body)
   have hx := w x hmem
   have p0 : at' 2 ea i = some (ix, [.int .i64 x.tag, .row () e1]) := by rw [hix, he1]; exact F.get hi hea hl' (fun _ => rfl) (by decide)
   obtain ⟨v, hv⟩ := nm (onTag p x)
   have c2 : o g [I x.tag] = some ⟨[B v], [], none⟩ := by rw [ho, hv]; exact hp x hmem
   rw [F.lt_t hi la (by simp [hl'])]; cbv
   rw [p0]; cbv
   rw [hg]; cbv
   rw [c2]; cbv
   refine both (fun d => ?_) (fun d => ?_) <;> rw [d] <;> cbv
   ·rw [show allS e1 = true from F.scal he1 (fun _ => rfl)]; cbv
    rw [F.app_nil he1 (fun _ => rfl) hx]; cbv
    rw [show allS [[.int .i64 x.tag, .row () e1]] = false by rw [F.allS]; rfl]; cbv
    obtain ⟨eo', heo'⟩ := nm (row fExt (sel (onTag p) idE pre ++ [idE x]))
    rw [show app 2 eo [[.int .i64 x.tag, .row () e1]] = some eo' by rw [heo', he1]; exact F.push hb (fun _ => rfl) rfl (by omega)]; cbv
    refine ih (suf, pre ++ [x], eo', add .i64 i 1, some (x.tag, e1)) ⟨hi', hl2, by simp only; rw [heo', sel_t (by rw [← hv, d])]⟩ (by simp)
   ·refine ih (suf, pre ++ [x], eo, add .i64 i 1, some (x.tag, e1)) ⟨hi', hl2, by simp only; rw [hb, sel_f (by rw [← hv, d])]⟩ (by simp)
theorem ok264_1 (g : Nat) (hg : md g = []) (k0 : V) (p : Int → Bool) (l : List Ext) (hl : l.length ≤ 1073741824) (w : ∀ y ∈ l, y.body.length ≤ 1099511627776) (hp : ∀ x ∈ l, fix Tb md g [I x.tag, ⟨.val, [⟨k0, .sh⟩]⟩] = some ⟨[B (p x.tag)], [], none⟩) {f0 : Fl} (h0 : inFl f0 = true) : fix Tb md 264 [R (row fExt l) f0, ⟨.val, [⟨.fn g [k0], .sh⟩]⟩] = some ⟨[R (row fExt (sel (onTag p) idE l)) (.ow false)], [], none⟩ := by
 generalize hm_ : md = m_ at hg hp ⊢
 obtain ⟨et, het⟩ := nm (row fExt (sel (onTag p) idE l))
 rw [← het]
 generalize hr : (⟨_, [], none⟩ : Ret) = r
 obtain ⟨ea, hea⟩ := nm (row fExt l)
 rw [← hea]
 refine fix_fn2 (fn := ir264) tb_264 rfl rfl (by decide) rfl ?_; intro Q hQ; simp only [shutArgs, shutS, List.map_cons, List.map_nil, ir264, shut_in h0, List.head?_nil, reduceCtorEq, if_false, sExt, sHello, sAnswer, sEdit, sDeal, sBox, sDialed, sKnown]
 intro add sub mul arith eq ne lt le gt ge neg conv mn mx not beq len at' ln bd cut app allS isNil mks set o hP F ho
 have la := F.len_at hea
 cbv
 refine loop_ind2 hP (σ := List Ext × List Ext × List (List V) × Int × Option (Int × List (List V))) (fun s => match s.2.2.2.2 with | none => [(0, R ea .sh), (1, ⟨.val, [⟨.fn g [k0], .sh⟩]⟩), (4, R [] .nl), (5, R s.2.2.1 (.ow false)), (9, R ea .sh), (10, I (len ea)), (11, I s.2.2.2.1)] | some j => [(0, R ea .sh), (1, ⟨.val, [⟨.fn g [k0], .sh⟩]⟩), (4, R [] .nl), (5, R s.2.2.1 (.ow false)), (7, ⟨.ptr 38 0, []⟩), (9, R ea .sh), (10, I (len ea)), (11, I s.2.2.2.1), (38, ⟨.box (), [⟨.int .i64 j.1, .sc⟩, ⟨.row () j.2, .sh⟩]⟩)]) (fun s => At s.2.2.2.1 s.2.1.length ∧ l = s.2.1 ++ s.1 ∧ s.2.2.1 = row fExt (sel (onTag p) idE s.2.1)) (fun s => s.1.length) (l, [], [], 0, none) rfl ⟨rfl, rfl, rfl⟩ ?_
 intro c1 Q1 hc1 hQ1
 rintro ⟨suf, pre, eo, i, j⟩ ⟨hi, hl', hb⟩ ih
 simp only at hi hl' hb ih
 rcases j with _ | ⟨j1, j2⟩
 all_goals
  cbv
  cases suf with
  | nil =>
   rw [F.lt_f hi la (by simp [hl'])]; cbv
   rw [hQ1]; cbv
   rw [hQ]; cbv
   rw [← hr, het, hb, hl', List.append_nil]
  | cons x suf =>
   obtain ⟨ix, hix⟩ := nm (pre.length * 2)
   have hpre : pre.length ≤ 1073741824 := by rw [hl'] at hl; simp at hl; omega
   have hs : (sel (onTag p) idE pre).length ≤ pre.length := sel_len
   have hi' : At (add .i64 i 1) (pre ++ [x]).length := at_len (F.inc hi (by omega)) (by simp)
   have hl2 : l = (pre ++ [x]) ++ suf := by rw [hl']; simp
   have hmem : x ∈ l := by rw [hl']; simp
   obtain ⟨e1, he1⟩ := nm (row fI x.body)
   have hx := w x hmem
   have p0 : at' 2 ea i = some (ix, [.int .i64 x.tag, .row () e1]) := by rw [hix, he1]; exact F.get hi hea hl' (fun _ => rfl) (by decide)
   obtain ⟨v, hv⟩ := nm (onTag p x)
   have c2 : o g [I x.tag, ⟨.val, [⟨k0, .sh⟩]⟩] = some ⟨[B v], [], none⟩ := by rw [ho, hv]; exact hp x hmem
   rw [F.lt_t hi la (by simp [hl'])]; cbv
   rw [p0]; cbv
   rw [hg]; cbv
   rw [c2]; cbv
   refine both (fun d => ?_) (fun d => ?_) <;> rw [d] <;> cbv
   ·rw [show allS e1 = true from F.scal he1 (fun _ => rfl)]; cbv
    rw [F.app_nil he1 (fun _ => rfl) hx]; cbv
    rw [show allS [[.int .i64 x.tag, .row () e1]] = false by rw [F.allS]; rfl]; cbv
    obtain ⟨eo', heo'⟩ := nm (row fExt (sel (onTag p) idE pre ++ [idE x]))
    rw [show app 2 eo [[.int .i64 x.tag, .row () e1]] = some eo' by rw [heo', he1]; exact F.push hb (fun _ => rfl) rfl (by omega)]; cbv
    refine ih (suf, pre ++ [x], eo', add .i64 i 1, some (x.tag, e1)) ⟨hi', hl2, by simp only; rw [heo', sel_t (by rw [← hv, d])]⟩ (by simp)
   ·refine ih (suf, pre ++ [x], eo, add .i64 i 1, some (x.tag, e1)) ⟨hi', hl2, by simp only; rw [hb, sel_f (by rw [← hv, d])]⟩ (by simp)
theorem ok347 (n : Int) : fix Tb md 347 [I n] = some ⟨[B true], [], none⟩ := by
 generalize hr : (⟨_, [], none⟩ : Ret) = r
 refine fix_fn2 (fn := ir347) tb_347 rfl rfl (by decide) rfl ?_; intro Q hQ; simp only [shutArgs, shutS, List.map_cons, List.map_nil, ir347, List.head?_nil, reduceCtorEq, if_false, sExt, sHello, sAnswer, sEdit, sDeal, sBox, sDialed, sKnown]
 intro add sub mul arith eq ne lt le gt ge neg conv mn mx not beq len at' ln bd cut app allS isNil mks set o hP F ho
 cbv
 rw [hQ]; cbv
 exact congrArg some hr
theorem ok266 (l : List Ext) (hl : l.length ≤ 1073741824) (w : ∀ y ∈ l, y.body.length ≤ 1099511627776) {f0 : Fl} (h0 : inFl f0 = true) : fix Tb md 266 [R (row fExt l) f0] = some ⟨[R (row fExt l) (.ow false)], [], none⟩ := by
 obtain ⟨ea, hea⟩ := nm (row fExt l)
 rw [← hea]
 generalize hr : (⟨_, [], none⟩ : Ret) = r
 refine fix_fn2 (fn := ir266) tb_266 rfl rfl (by decide) rfl ?_; intro Q hQ; simp only [shutArgs, shutS, List.map_cons, List.map_nil, ir266, shut_in h0, List.head?_nil, reduceCtorEq, if_false, sExt, sHello, sAnswer, sEdit, sDeal, sBox, sDialed, sKnown]
 intro add sub mul arith eq ne lt le gt ge neg conv mn mx not beq len at' ln bd cut app allS isNil mks set o hP F ho
 have c1 : o 264 [R ea (.sp 0 0), ⟨.val, [⟨.fn 347 [], .sh⟩]⟩] = some ⟨[R ea (.ow false)], [], none⟩ := by
  rw [ho, hea]
  have h := ok264_0 347 rfl (fun _ => true) l hl w (fun x _ => ok347 x.tag) (f0 := .sp 0 0) rfl
  rw [show sel (onTag fun _ => true) idE l = l by rw [sel_idE]; exact List.filter_eq_self.2 (fun _ _ => rfl)] at h
  exact h
 cbv
 rw [c1]; cbv
 rw [hQ]; cbv
 exact congrArg some hr
theorem ok261 (h : Hello) (mh : h.Mid) {f0 f1 : Fl} (q0 : inFl f0 = true) (q1 : inFl f1 = true) : fix Tb md 261 [sHello (row fI h.versions) (row fExt h.exts) f0 f1] = some ⟨[sHello (row fI h.versions) (row fExt h.exts) (.ow false) (.ow false)], [], none⟩ := by
 have mh' := mh
 unfold Hello.Mid at mh'
 obtain ⟨ev, hev⟩ := nm (row fI h.versions)
 obtain ⟨ex, hex⟩ := nm (row fExt h.exts)
 rw [← hev, ← hex]
 generalize hr : (⟨_, [], none⟩ : Ret) = r
 refine fix_fn2 (fn := ir261) tb_261 rfl rfl (by decide) rfl ?_; intro Q hQ; simp only [shutArgs, shutS, List.map_cons, List.map_nil, ir261, shut_in q0, shut_in q1, List.head?_nil, reduceCtorEq, if_false, sExt, sHello, sAnswer, sEdit, sDeal, sBox, sDialed, sKnown]
 intro add sub mul arith eq ne lt le gt ge neg conv mn mx not beq len at' ln bd cut app allS isNil mks set o hP F ho
 have c1 : o 266 [R ex (.sp 0 0)] = some ⟨[R ex (.ow false)], [], none⟩ := by rw [ho, hex]; exact ok266 _ mh'.2.1 (fun y hy => Nat.le_trans (show y.body.length ≤ 1073741824 from mh'.2.2 y hy) (by decide)) rfl
 cbv
 rw [show allS ev = true from F.scal hev (fun _ => rfl)]; cbv
 rw [F.app_nil hev (fun _ => rfl) (Nat.le_trans mh'.1 (by decide))]; cbv
 rw [c1]; cbv
 rw [hQ]; cbv
 exact congrArg some hr
def neI (t x : Int) : Bool := decide (x ≠ t)
theorem ok362 (l : List Int) (t : Int) (hl : l.length ≤ 1073741824) {f0 : Fl} (h0 : inFl f0 = true) : fix Tb md 362 [R (row fI l) f0, I t] = some ⟨[R (row fI (sel (neI t) idI l)) (.ow false)], [], none⟩ := by
 obtain ⟨et, het⟩ := nm (row fI (sel (neI t) idI l))
 rw [← het]
 generalize hr : (⟨_, [], none⟩ : Ret) = r
 obtain ⟨ea, hea⟩ := nm (row fI l)
 rw [← hea]
 refine fix_fn2 (fn := ir362) tb_362 rfl rfl (by decide) rfl ?_; intro Q hQ; simp only [shutArgs, shutS, List.map_cons, List.map_nil, ir362, shut_in h0, List.head?_nil, reduceCtorEq, if_false, sExt, sHello, sAnswer, sEdit, sDeal, sBox, sDialed, sKnown]
 intro add sub mul arith eq ne lt le gt ge neg conv mn mx not beq len at' ln bd cut app allS isNil mks set o hP F ho
 have la := F.len_at hea
 cbv
 refine loop_ind2 hP (σ := List Int × List Int × List (List V) × Int) (fun s => [(0, R ea .sh), (1, I t), (4, R [] .nl), (5, R s.2.2.1 (.ow false)), (6, I s.2.2.2)]) (fun s => At s.2.2.2 s.2.1.length ∧ l = s.2.1 ++ s.1 ∧ s.2.2.1 = row fI (sel (neI t) idI s.2.1)) (fun s => s.1.length) (l, [], [], 0) rfl ⟨rfl, rfl, rfl⟩ ?_
 intro c1 Q1 hc1 hQ1
 rintro ⟨suf, pre, eo, i⟩ ⟨hi, hl', hb⟩ ih
 simp only at hi hl' hb ih
 cbv
 cases suf with
 | nil =>
  rw [F.lt_f hi la (by simp [hl'])]; cbv
  rw [hQ1]; cbv
  rw [hQ]; cbv
  rw [← hr, het, hb, hl', List.append_nil]
 | cons x suf =>
  obtain ⟨ix, hix⟩ := nm (pre.length * 1)
  have hpre : pre.length ≤ 1073741824 := by rw [hl'] at hl; simp at hl; omega
  have hs : (sel (neI t) idI pre).length ≤ pre.length := sel_len
  have hi' : At (add .i64 i 1) (pre ++ [x]).length := at_len (F.inc hi (by omega)) (by simp)
  have hl2 : l = (pre ++ [x]) ++ suf := by rw [hl']; simp
  have hmem : x ∈ l := by rw [hl']; simp
  have p0 : at' 1 ea i = some (ix, [.int .i64 x]) := by rw [hix]; exact F.get hi hea hl' (fun _ => rfl) (by decide)
  obtain ⟨v, hv⟩ := nm (neI t x)
  have g1 : ne x t = v := by rw [F.ne, hv]; rfl
  rw [F.lt_t hi la (by simp [hl'])]; cbv
  rw [p0]; cbv
  rw [g1]; cbv
  refine both (fun d => ?_) (fun d => ?_) <;> rw [d] <;> cbv
  ·rw [p0]; cbv
   rw [show allS [[.int .i64 x]] = true by rw [F.allS]; rfl]; cbv
   obtain ⟨eo', heo'⟩ := nm (row fI (sel (neI t) idI pre ++ [idI x]))
   rw [show app 1 eo [[.int .i64 x]] = some eo' by rw [heo']; exact F.push hb (fun _ => rfl) rfl (by omega)]; cbv
   refine ih (suf, pre ++ [x], eo', add .i64 i 1) ⟨hi', hl2, by simp only; rw [heo', sel_t (by rw [← hv, d])]⟩ (by simp)
  ·refine ih (suf, pre ++ [x], eo, add .i64 i 1) ⟨hi', hl2, by simp only; rw [hb, sel_f (by rw [← hv, d])]⟩ (by simp)
def dvOk (l : List Int) (v : Int) : Bool := areVer l && hasI l v && !decide (l.length = 1)
def dvV (l : List Int) (v : Int) : List Int := if dvOk l v then sel (neI v) idI l else l
theorem dvV_len {l : List Int} {v : Int} : (dvV l v).length ≤ l.length := by
 unfold dvV; split
 ·exact sel_len
 ·exact Nat.le_refl _
theorem notIn_one {v : Int} : notIn [v] = neI v := by
 funext x
 simp only [notIn, neI, hasI, List.any_cons, List.any_nil, Bool.or_false]
 by_cases h : v = x <;> simp [h, eq_comm]
theorem ok262 (l : List Int) (n : Int) (hl : l.length ≤ 1073741824) {f0 : Fl} (q0 : inFl f0 = true) : fix Tb md 262 [R (row fI l) f0, I n] = some ⟨[R (row fI (dvV l n)) (.ow false), B (dvOk l n)], [], none⟩ := by
 obtain ⟨u, hu⟩ := nm (areVer l)
 obtain ⟨v, hv⟩ := nm (hasI l n)
 obtain ⟨w, hw⟩ := nm (decide (l.length = 1))
 obtain ⟨W, hW⟩ := nm (dvOk l n)
 obtain ⟨et, het⟩ := nm (row fI (dvV l n))
 rw [← hW, ← het]
 have hW' : W = (u && v && !w) := by rw [hW, hu, hv, hw]; rfl
 have hT1 : W = true → et = row fI (sel (neI n) idI l) := fun h => by rw [het, dvV, ← hW, h]; rfl
 have hT2 : W = false → et = row fI l := fun h => by rw [het, dvV, ← hW, h]; rfl
 clear hW het
 generalize hr : (⟨_, [], none⟩ : Ret) = r
 obtain ⟨ea, hea⟩ := nm (row fI l)
 rw [← hea]
 rw [← hea] at hT2
 obtain ⟨es, hes⟩ := nm (row fI (sel (neI n) idI l))
 rw [← hes] at hT1
 refine fix_fn2 (fn := ir262) tb_262 rfl rfl (by decide) rfl ?_; intro Q hQ; simp only [shutArgs, shutS, List.map_cons, List.map_nil, ir262, shut_in q0, List.head?_nil, reduceCtorEq, if_false, sExt, sHello, sAnswer, sEdit, sDeal, sBox, sDialed, sKnown]
 intro add sub mul arith eq ne lt le gt ge neg conv mn mx not beq len at' ln bd cut app allS isNil mks set o hP F ho
 have la := F.len_at hea
 have c1 : o 255 [R ea (.sp 0 0)] = some ⟨[B u], [], none⟩ := by rw [ho, hu, hea]; exact ok255 _ (by omega) rfl
 have c2 : o 302 [R ea (.sp 0 0), I n] = some ⟨[B v], [], none⟩ := by rw [ho, hv, hea]; exact ok302 _ _ (by omega) rfl
 have c3 : o 287 [R ea (.sp 0 0), R [[.int .i64 n]] (.sp 1 0)] = some ⟨[R es (.ow false)], [], none⟩ := by rw [ho, hes, hea, ← notIn_one]; exact ok287 l [n] hl (by simp) rfl rfl
 have g1 : eq (len ea) 1 = w := by rw [F.eq_n la (k := 1) (m := 1) rfl, hw]
 have g2 : allS ea = true := F.scal hea (fun _ => rfl)
 have g3 : app 1 [] ea = some ea := F.app_nil hea (fun _ => rfl) (by omega)
 cbv
 rw [c1]; cbv
 refine both (fun d1 => ?_) (fun d1 => ?_) <;> rw [d1] <;> cbv
 ·rw [g2]; cbv
  rw [g3]; cbv
  rw [hQ]; cbv
  rw [F.not_t d1] at hW'
  rw [← hr, hW', hT2 hW']; rfl
 rw [c2]; cbv
 refine both (fun d2 => ?_) (fun d2 => ?_) <;> rw [d2] <;> cbv
 ·rw [g2]; cbv
  rw [g3]; cbv
  rw [hQ]; cbv
  rw [F.not_f d1, F.not_t d2] at hW'
  rw [← hr, hW', hT2 hW']; rfl
 rw [g1]; cbv
 refine both (fun d3 => ?_) (fun d3 => ?_) <;> rw [d3] <;> cbv
 ·rw [g2]; cbv
  rw [g3]; cbv
  rw [hQ]; cbv
  rw [F.not_f d1, F.not_f d2, d3] at hW'
  rw [← hr, hW', hT2 hW']; rfl
 rw [c3]; cbv
 rw [hQ]; cbv
 rw [F.not_f d1, F.not_f d2, d3] at hW'
 rw [← hr, hW', hT1 hW']; rfl
theorem intsOf_row : ∀ l : List Int, intsOf (row fI l) = some l
 | [] => rfl
 | x :: l => by
  show intsOf ([.int .i64 x] :: row fI l) = _
  unfold intsOf
  rw [intsOf_row l]; rfl
theorem ok2346 (l : List Int) (hl : l.length ≤ 1099511627776) : fix Tb md 2346 [R (row fI l) (.mp 0)] = some ⟨[], [.row () (row fI (sortI l))], none⟩ := by
 refine fix_special tb_2346 (by decide) ?_
 show special 3 [⟨.val, [⟨.row () (row fI l), .mp 0⟩]⟩] = _
 have h2 : l.length ≤ lim := by simpa [lim] using hl
 simp only [special, intsOf_row, h2, if_true]
 rfl
def comm (a b : List Int) : List Int := sel (hasI b) idI a
def bestC (a b : List Int) : Int := if areVer a && areVer b then (comm a b).getLastD 0 else 0
theorem ver_asc : ∀ (suf pre : List Int), verGo pre suf = true → (∀ y, pre.getLast? = some y → ∀ x ∈ suf, y < x) ∧ suf.Pairwise (· < ·) ∧ ∀ x ∈ suf, 1 ≤ x ∧ x ≤ 9
 | [], _, _ => ⟨by simp, .nil, by simp⟩
 | x :: suf, pre, h => by
  unfold verGo at h
  simp only [Bool.and_eq_true] at h
  obtain ⟨⟨h1, h2⟩, h3⟩ := h
  obtain ⟨i1, i2, i3⟩ := ver_asc suf _ h3
  have i1' := i1 x (by simp)
  have hx : 1 ≤ x ∧ x ≤ 9 := by unfold inR at h1; simpa using h1
  refine ⟨?_, List.pairwise_cons.2 ⟨i1', i2⟩, ?_⟩
  ·intro y hy z hz
   rw [hy] at h2
   simp only [Bool.not_eq_true', decide_eq_false_iff_not] at h2
   rcases List.mem_cons.1 hz with rfl | hz
   ·omega
   ·have := i1' z hz; omega
  ·intro z hz
   rcases List.mem_cons.1 hz with rfl | hz
   ·exact hx
   ·exact i3 z hz
theorem areVer_asc {l : List Int} (h : areVer l = true) : l.Pairwise (· < ·) ∧ ∀ x ∈ l, 1 ≤ x ∧ x ≤ 9 := by
 unfold areVer at h
 simp only [Bool.and_eq_true] at h
 exact (ver_asc l [] h.1).2
def mxI (x y : Int) : Int := if y > x then y else x
theorem mx_last : ∀ (l : List Int) (d : Int), l.Pairwise (· < ·) → (∀ x ∈ l, d < x) → l.foldl mxI d = l.getLastD d
 | [], _, _, _ => rfl
 | x :: l, d, h1, h2 => by
  rw [List.foldl_cons, show mxI d x = x by unfold mxI; rw [if_pos (h2 x (by simp))]]
  rw [mx_last l x (List.pairwise_cons.1 h1).2 (List.pairwise_cons.1 h1).1]
  cases l <;> rfl
theorem comm_asc {a b : List Int} (h : areVer a = true) : (comm a b).Pairwise (· < ·) ∧ ∀ x ∈ comm a b, 1 ≤ x ∧ x ≤ 9 := by
 obtain ⟨h1, h2⟩ := areVer_asc h
 unfold comm
 rw [sel_idI]
 exact ⟨h1.filter _, fun x hx => h2 x (List.mem_filter.1 hx).1⟩
theorem comm_max {a b : List Int} (h : areVer a = true) : (comm a b).foldl mxI 0 = (comm a b).getLastD 0 := by
 obtain ⟨h1, h2⟩ := comm_asc (b := b) h
 exact mx_last _ _ h1 fun x hx => by have := h2 x hx; omega
theorem last_split {l : List Int} (h : l ≠ []) : l = l.dropLast ++ [l.getLastD 0] := by
 rw [List.getLastD_eq_getLast?, List.getLast?_eq_some_getLast h]
 exact (List.dropLast_concat_getLast h).symm
def l4Go (n : Int) : List Int → List Int → List Int
 | pre, [] => pre ++ [n]
 | pre, x :: suf => if x < n then l4Go n (pre ++ [x]) suf else if x = n then pre ++ x :: suf else pre ++ n :: x :: suf
def l4V (l : List Int) (n : Int) : List Int := l4Go n [] l
theorem l4Go_len (n : Int) : ∀ (suf pre : List Int), (l4Go n pre suf).length ≤ pre.length + suf.length + 1
 | [], pre => by simp [l4Go]
 | x :: suf, pre => by
  unfold l4Go
  split
  ·have := l4Go_len n suf (pre ++ [x]); simp at this ⊢; omega
  ·split <;> simp <;> omega
theorem l4V_len (l : List Int) (n : Int) : (l4V l n).length ≤ l.length + 1 := by have := l4Go_len n l []; simpa [l4V] using this
theorem l4Go_perm (n : Int) : ∀ (suf pre : List Int), n ∉ suf → (l4Go n pre suf).Perm (n :: (pre ++ suf))
 | [], pre, _ => by unfold l4Go; rw [List.append_nil]; exact List.perm_append_singleton n pre
 | x :: suf, pre, h => by
  unfold l4Go
  simp only [List.mem_cons, not_or] at h
  split
  ·have := l4Go_perm n suf (pre ++ [x]) h.2
   simpa using this
  ·rw [if_neg (fun e => h.1 e.symm)]
   exact List.perm_middle
theorem l4Go_asc (n : Int) : ∀ (suf pre : List Int), (pre ++ suf).Pairwise (· < ·) → n ∉ suf → (∀ x ∈ pre, x < n) → (l4Go n pre suf).Pairwise (· < ·)
 | [], pre, h1, _, h3 => by
  unfold l4Go
  rw [List.append_nil] at h1
  rw [List.pairwise_append]
  exact ⟨h1, by simp, fun a ha b hb => by simp at hb; subst hb; exact h3 a ha⟩
 | x :: suf, pre, h1, h2, h3 => by
  unfold l4Go
  simp only [List.mem_cons, not_or] at h2
  split
  ·rename_i hx
   refine l4Go_asc n suf (pre ++ [x]) (by simpa using h1) h2.2 (fun y hy => ?_)
   rcases List.mem_append.1 hy with hy | hy
   ·exact h3 y hy
   ·simp at hy; subst hy; exact hx
  ·rename_i hx
   rw [if_neg (fun e => h2.1 e.symm)]
   rw [List.pairwise_append] at h1 ⊢
   obtain ⟨p1, p2, p3⟩ := h1
   have hnx : n < x := by have := h2.1; omega
   refine ⟨p1, List.pairwise_cons.2 ⟨fun y hy => ?_, p2⟩, fun a ha b hb => ?_⟩
   ·rcases List.mem_cons.1 hy with rfl | hy
    ·exact hnx
    ·exact Int.lt_trans hnx ((List.pairwise_cons.1 p2).1 y hy)
   ·rcases List.mem_cons.1 hb with rfl | hb
    ·exact h3 a ha
    ·exact p3 a ha b hb
theorem sortI_put {l : List Int} {n : Int} (h : areVer l = true) (hn : hasI l n = false) : sortI (l ++ [n]) = l4V l n := by
 have hm : n ∉ l := fun q => by
  unfold hasI at hn
  rw [List.any_eq_false] at hn
  exact hn n q (by simp)
 obtain ⟨h1, _⟩ := areVer_asc h
 have p1 : (l4V l n).Perm (n :: l) := by have := l4Go_perm n l [] hm; simpa [l4V] using this
 have p2 : (sortI (l ++ [n])).Perm (l ++ [n]) := List.mergeSort_perm _ _
 have s1 : (l4V l n).Pairwise (· < ·) := l4Go_asc n l [] (by simpa using h1) hm (by simp)
 have s2 : (sortI (l ++ [n])).Pairwise (fun a b => decide (a ≤ b) = true) := List.pairwise_mergeSort (fun a b c => by simp; omega) (fun a b => by simp; omega) _
 refine List.Perm.eq_of_pairwise (le := fun a b => a ≤ b) (fun a b _ _ h1 h2 => Int.le_antisymm h1 h2) (s2.imp (fun h => by simpa using h)) (s1.imp (fun h => Int.le_of_lt h)) ?_
 exact p2.trans ((List.perm_append_singleton n l).trans p1.symm)
def avOk (l : List Int) (v : Int) : Bool := areVer l && inR v 1 9 && !hasI l v
def avV (l : List Int) (v : Int) : List Int := if avOk l v then l4V l v else l
theorem avV_len (l : List Int) (v : Int) : (avV l v).length ≤ l.length + 1 := by
 unfold avV; split
 ·exact l4V_len l v
 ·omega
theorem ok263 (l : List Int) (n : Int) (hl : l.length ≤ 1073741824) {f0 : Fl} (q0 : inFl f0 = true) : fix Tb md 263 [R (row fI l) f0, I n] = some ⟨[R (row fI (avV l n)) (.ow false), B (avOk l n)], [], none⟩ := by
 obtain ⟨u, hu⟩ := nm (areVer l)
 obtain ⟨v, hv⟩ := nm (inR n 1 9)
 obtain ⟨w, hw⟩ := nm (hasI l n)
 obtain ⟨W, hW⟩ := nm (avOk l n)
 obtain ⟨et, het⟩ := nm (row fI (avV l n))
 rw [← hW, ← het]
 have hW' : W = (u && v && !w) := by rw [hW, hu, hv, hw]; rfl
 have hT1 : W = true → et = row fI (l4V l n) := fun h => by rw [het, avV, ← hW, h]; rfl
 have hT2 : W = false → et = row fI l := fun h => by rw [het, avV, ← hW, h]; rfl
 clear hW het
 generalize hr : (⟨_, [], none⟩ : Ret) = r
 obtain ⟨ea, hea⟩ := nm (row fI l)
 rw [← hea]
 rw [← hea] at hT2
 obtain ⟨es, hes⟩ := nm (row fI (l4V l n))
 rw [← hes] at hT1
 obtain ⟨e1, he1⟩ := nm (row fI (l ++ [n]))
 refine fix_fn2 (fn := ir263) tb_263 rfl rfl (by decide) rfl ?_; intro Q hQ; simp only [shutArgs, shutS, List.map_cons, List.map_nil, ir263, shut_in q0, List.head?_nil, reduceCtorEq, if_false, sExt, sHello, sAnswer, sEdit, sDeal, sBox, sDialed, sKnown]
 intro add sub mul arith eq ne lt le gt ge neg conv mn mx not beq len at' ln bd cut app allS isNil mks set o hP F ho
 have c1 : o 255 [R ea (.sp 0 0)] = some ⟨[B u], [], none⟩ := by rw [ho, hu, hea]; exact ok255 _ (by omega) rfl
 have c2 : o 232 [I n, I 1, I 9] = some ⟨[B v], [], none⟩ := by rw [ho, hv]; exact ok232 ..
 have c3 : o 302 [R ea (.sp 0 0), I n] = some ⟨[B w], [], none⟩ := by rw [ho, hw, hea]; exact ok302 _ _ (by omega) rfl
 have g2 : allS ea = true := F.scal hea (fun _ => rfl)
 have g3 : app 1 [] ea = some ea := F.app_nil hea (fun _ => rfl) (by omega)
 cbv
 rw [g2]; cbv
 rw [g3]; cbv
 rw [c1]; cbv
 refine both (fun d1 => ?_) (fun d1 => ?_) <;> rw [d1] <;> cbv
 ·rw [hQ]; cbv
  rw [F.not_t d1] at hW'
  rw [← hr, hW', hT2 hW']; rfl
 rw [c2]; cbv
 refine both (fun d2 => ?_) (fun d2 => ?_) <;> rw [d2] <;> cbv
 ·rw [hQ]; cbv
  rw [F.not_f d1, F.not_t d2] at hW'
  rw [← hr, hW', hT2 hW']; rfl
 rw [c3]; cbv
 refine both (fun d3 => ?_) (fun d3 => ?_) <;> rw [d3] <;> cbv
 ·rw [hQ]; cbv
  rw [F.not_f d1, F.not_f d2, d3] at hW'
  rw [← hr, hW', hT2 hW']; rfl
 rw [F.not_f d1, F.not_f d2, d3] at hW'
 have p1 : app 1 ea [[.int .i64 n]] = some e1 := by rw [he1]; exact F.push hea (fun _ => rfl) rfl (by omega)
 have p2 : allS [[.int .i64 n]] = true := by rw [F.allS]; rfl
 have c4 : o 2346 [R e1 (.mp 0)] = some ⟨[], [.row () es], none⟩ := by
  rw [ho, he1, hes, ← sortI_put (by rw [← hu, F.not_f d1]) (by rw [← hw, d3])]
  exact ok2346 _ (by simp; omega)
 rw [p2]; cbv
 rw [p1]; cbv
 rw [c4]; cbv
 rw [hQ]; cbv
 rw [← hr, hW', hT1 hW']; rfl
theorem ok265 (t k n : Int) : fix Tb md 265 [I t, ⟨.val, [⟨.ptr () [.int .i64 k, .int .i64 n], .sh⟩]⟩] = some ⟨[B (decide (t ≠ n))], [], none⟩ := by
 generalize hr : (⟨_, [], none⟩ : Ret) = r
 refine fix_fn2 (fn := ir265) tb_265 rfl rfl (by decide) rfl ?_; intro Q hQ; simp only [shutArgs, shutS, List.map_cons, List.map_nil, ir265, List.head?_nil, reduceCtorEq, if_false, sExt, sHello, sAnswer, sEdit, sDeal, sBox, sDialed, sKnown]
 intro add sub mul arith eq ne lt le gt ge neg conv mn mx not beq len at' ln bd cut app allS isNil mks set o hP F ho
 cbv
 rw [hQ]; cbv
 rw [← hr, F.ne]
def notTag (t : Int) (e : Ext) : Bool := decide (e.tag ≠ t)
theorem ok296 (l : List Ext) (t : Int) (hl : l.length ≤ 1073741824) (w : ∀ y ∈ l, y.body.length ≤ 1099511627776) {f0 : Fl} (h0 : inFl f0 = true) : fix Tb md 296 [R (row fExt l) f0, I t] = some ⟨[R (row fExt (sel (notTag t) idE l)) (.ow false)], [], none⟩ := by
 obtain ⟨et, het⟩ := nm (row fExt (sel (notTag t) idE l))
 rw [← het]
 generalize hr : (⟨_, [], none⟩ : Ret) = r
 obtain ⟨ea, hea⟩ := nm (row fExt l)
 rw [← hea]
 refine fix_fn2 (fn := ir296) tb_296 rfl rfl (by decide) rfl ?_; intro Q hQ; simp only [shutArgs, shutS, List.map_cons, List.map_nil, ir296, shut_in h0, List.head?_nil, reduceCtorEq, if_false, sExt, sHello, sAnswer, sEdit, sDeal, sBox, sDialed, sKnown]
 intro add sub mul arith eq ne lt le gt ge neg conv mn mx not beq len at' ln bd cut app allS isNil mks set o hP F ho
 have la := F.len_at hea
 cbv
 refine loop_ind2 hP (σ := List Ext × List Ext × List (List V) × Int) (fun s => [(0, R ea .sh), (1, I t), (4, R [] .nl), (5, R s.2.2.1 (.ow false)), (6, I s.2.2.2)]) (fun s => At s.2.2.2 s.2.1.length ∧ l = s.2.1 ++ s.1 ∧ s.2.2.1 = row fExt (sel (notTag t) idE s.2.1)) (fun s => s.1.length) (l, [], [], 0) rfl ⟨rfl, rfl, rfl⟩ ?_
 intro c1 Q1 hc1 hQ1
 rintro ⟨suf, pre, eo, i⟩ ⟨hi, hl', hb⟩ ih
 simp only at hi hl' hb ih
 cbv
 cases suf with
 | nil =>
  rw [F.lt_f hi la (by simp [hl'])]; cbv
  rw [hQ1]; cbv
  rw [hQ]; cbv
  rw [← hr, het, hb, hl', List.append_nil]
 | cons x suf =>
  obtain ⟨ix, hix⟩ := nm (pre.length * 2)
  have hpre : pre.length ≤ 1073741824 := by rw [hl'] at hl; simp at hl; omega
  have hs : (sel (notTag t) idE pre).length ≤ pre.length := sel_len
  have hi' : At (add .i64 i 1) (pre ++ [x]).length := at_len (F.inc hi (by omega)) (by simp)
  have hl2 : l = (pre ++ [x]) ++ suf := by rw [hl']; simp
  have hmem : x ∈ l := by rw [hl']; simp
  obtain ⟨e1, he1⟩ := nm (row fI x.body)
  have hx := w x hmem
  have p0 : at' 2 ea i = some (ix, [.int .i64 x.tag, .row () e1]) := by rw [hix, he1]; exact F.get hi hea hl' (fun _ => rfl) (by decide)
  obtain ⟨v, hv⟩ := nm (notTag t x)
  have g1 : ne x.tag t = v := by rw [F.ne, hv]; rfl
  rw [F.lt_t hi la (by simp [hl'])]; cbv
  rw [p0]; cbv
  rw [g1]; cbv
  refine both (fun d => ?_) (fun d => ?_) <;> rw [d] <;> cbv
  ·rw [p0]; cbv
   rw [p0]; cbv
   rw [show allS e1 = true from F.scal he1 (fun _ => rfl)]; cbv
   rw [F.app_nil he1 (fun _ => rfl) hx]; cbv
   rw [show allS [[.int .i64 x.tag, .row () e1]] = false by rw [F.allS]; rfl]; cbv
   obtain ⟨eo', heo'⟩ := nm (row fExt (sel (notTag t) idE pre ++ [idE x]))
   rw [show app 2 eo [[.int .i64 x.tag, .row () e1]] = some eo' by rw [heo', he1]; exact F.push hb (fun _ => rfl) rfl (by omega)]; cbv
   refine ih (suf, pre ++ [x], eo', add .i64 i 1) ⟨hi', hl2, by simp only; rw [heo', sel_t (by rw [← hv, d])]⟩ (by simp)
  ·refine ih (suf, pre ++ [x], eo, add .i64 i 1) ⟨hi', hl2, by simp only; rw [hb, sel_f (by rw [← hv, d])]⟩ (by simp)
def ehX (h : Hello) (n : Int) : List Ext := h.exts ++ [⟨n, []⟩]
def editH (h : Hello) (e : Edit) : Hello :=
 if e.kind = 1 then ⟨dvV h.versions e.n, h.exts⟩ else if e.kind = 2 then ⟨avV h.versions e.n, h.exts⟩ else if e.kind = 3 then ⟨h.versions, sel (notTag e.n) idE h.exts⟩ else if e.kind = 6 then (if areEx (ehX h e.n) = true then ⟨h.versions, ehX h e.n⟩ else h) else h
def hB (h : Hello) (n m : Nat) : Prop := h.versions.length ≤ n ∧ h.exts.length ≤ m ∧ ∀ y ∈ h.exts, y.body.length ≤ 1073741824
theorem editH_b {h : Hello} {e : Edit} {n m : Nat} (q : hB h n m) : hB (editH h e) (n + 1) (m + 1) := by
 obtain ⟨q1, q2, q3⟩ := q
 unfold editH
 split
 ·exact ⟨Nat.le_trans (Nat.le_trans dvV_len q1) (by omega), by show h.exts.length ≤ _; omega, q3⟩
 split
 ·exact ⟨by have := avV_len h.versions e.n; show (avV h.versions e.n).length ≤ _; omega, by show h.exts.length ≤ _; omega, q3⟩
 split
 ·refine ⟨by show h.versions.length ≤ _; omega, Nat.le_trans sel_len (by omega), fun y hy => q3 y ?_⟩
  simp only [sel_idE] at hy
  exact (List.mem_filter.1 hy).1
 split
 ·split
  ·refine ⟨by show h.versions.length ≤ _; omega, by show (ehX h e.n).length ≤ _; simp [ehX]; omega, fun y hy => ?_⟩
   simp only [ehX] at hy
   rcases List.mem_append.1 hy with hy | hy
   ·exact q3 y hy
   ·simp at hy; subst hy; simp
  ·exact ⟨by omega, by omega, q3⟩
 ·exact ⟨by omega, by omega, q3⟩
theorem hB_mid {h : Hello} {n : Nat} (q : hB h n n) (hn : n ≤ 1073741824) : h.Mid := ⟨Nat.le_trans q.1 hn, Nat.le_trans q.2.1 hn, q.2.2⟩
theorem ok117 (h : Hello) (e : Edit) (q : hB h 1073741823 1073741823) {f0 f1 : Fl} (q0 : inFl f0 = true) (q1 : inFl f1 = true) : fix Tb md 117 [sHello (row fI h.versions) (row fExt h.exts) f0 f1, sEdit e.kind e.n] = some ⟨[sHello (row fI (editH h e).versions) (row fExt (editH h e).exts) (.ow false) (.ow false)], [], none⟩ := by
 obtain ⟨hvl, hxl, wm⟩ := q
 have mh : h.Mid := ⟨by omega, by omega, wm⟩
 have wh : ∀ y ∈ h.exts, y.body.length ≤ 1099511627776 := fun y hy => Nat.le_trans (wm y hy) (by decide)
 have wx : ∀ y ∈ ehX h e.n, y.body.length ≤ 1099511627776 := fun y hy => by
  simp only [ehX] at hy
  rcases List.mem_append.1 hy with hy | hy
  ·exact wh y hy
  ·simp at hy; subst hy; simp
 obtain ⟨k, hk⟩ := nm e.kind
 obtain ⟨n, hn⟩ := nm e.n
 obtain ⟨z, hz⟩ := nm (editH h e)
 obtain ⟨u, hu⟩ := nm (areEx (ehX h n))
 have hv : z = if k = 1 then ⟨dvV h.versions n, h.exts⟩ else if k = 2 then ⟨avV h.versions n, h.exts⟩ else if k = 3 then ⟨h.versions, sel (notTag n) idE h.exts⟩ else if k = 6 then (if u = true then ⟨h.versions, ehX h n⟩ else h) else h := by rw [hz, hk, hu, hn]; rfl
 rw [← hk, ← hn, ← hz]
 rw [← hn] at wx
 clear hz hk hn
 have hc : k = 1 ∨ k = 2 ∨ k = 3 ∨ k = 6 ∨ (k ≠ 1 ∧ k ≠ 2 ∧ k ≠ 3 ∧ k ≠ 6) := by omega
 have k1 := ok261 h mh (f0 := .sp 0 0) (f1 := .sp 0 1) rfl rfl
 have k2 := ok262 h.versions n (by omega) (f0 := .sp 0 0) rfl
 have k3 := ok263 h.versions n (by omega) (f0 := .sp 0 0) rfl
 have k4 := ok266 h.exts (by omega) wh (f0 := .sp 0 0) rfl
 have k5 := ok258 (ehX h n) (by simp [ehX]; omega) wx (f0 := .sp 0 0) rfl
 have k6 := ok264_1 265 rfl (.ptr () [.int .i64 k, .int .i64 n]) (fun t => decide (t ≠ n)) h.exts (by omega) wh (fun x _ => ok265 x.tag k n) (f0 := .sp 0 0) rfl
 rw [show sel (onTag fun t => decide (t ≠ n)) idE h.exts = sel (notTag n) idE h.exts from rfl] at k6
 rw [← hu] at k5
 obtain ⟨w1, hw1⟩ := nm (dvOk h.versions n)
 obtain ⟨w2, hw2⟩ := nm (avOk h.versions n)
 rw [← hw1] at k2
 rw [← hw2] at k3
 clear hw1 hw2
 obtain ⟨dv, hdv⟩ := nm (row fI h.versions)
 obtain ⟨dx, hdx⟩ := nm (row fExt h.exts)
 obtain ⟨ed, hed⟩ := nm (row fI (dvV h.versions n))
 obtain ⟨ea, hea⟩ := nm (row fI (avV h.versions n))
 obtain ⟨es, hes⟩ := nm (row fExt (sel (notTag n) idE h.exts))
 obtain ⟨ex, hex⟩ := nm (row fExt (ehX h n))
 rw [← hdv, ← hdx] at k1 ⊢
 rw [← hdv, ← hed] at k2
 rw [← hdv, ← hea] at k3
 rw [← hdx] at k4
 rw [← hdx, ← hes] at k6
 rw [← hex] at k5
 rcases hc with rfl | rfl | rfl | rfl | ⟨n1, n2, n3, n6⟩
 ·have hv' : z = ⟨dvV h.versions n, h.exts⟩ := by rw [hv, if_pos rfl]
  rw [hv']
  simp only
  rw [← hed, ← hdx]
  generalize hr : (⟨_, [], none⟩ : Ret) = r
  refine fix_fn2 (fn := ir117) tb_117 rfl rfl (by decide) rfl ?_; intro Q hQ; simp only [shutArgs, shutS, List.map_cons, List.map_nil, ir117, shut_in q0, shut_in q1, List.head?_nil, reduceCtorEq, if_false, sExt, sHello, sAnswer, sEdit, sDeal, sBox, sDialed, sKnown]
  intro add sub mul arith eq ne lt le gt ge neg conv mn mx not beq len at' ln bd cut app allS isNil mks set o hP F ho
  rw [← ho] at k1 k2
  cbv
  rw [k1]; cbv
  rw [F.eq_t rfl]; cbv
  rw [k2]; cbv
  rw [hQ]; cbv
  exact congrArg some hr
 ·have hv' : z = ⟨avV h.versions n, h.exts⟩ := by rw [hv, if_neg (by decide), if_pos rfl]
  rw [hv']
  simp only
  rw [← hea, ← hdx]
  generalize hr : (⟨_, [], none⟩ : Ret) = r
  refine fix_fn2 (fn := ir117) tb_117 rfl rfl (by decide) rfl ?_; intro Q hQ; simp only [shutArgs, shutS, List.map_cons, List.map_nil, ir117, shut_in q0, shut_in q1, List.head?_nil, reduceCtorEq, if_false, sExt, sHello, sAnswer, sEdit, sDeal, sBox, sDialed, sKnown]
  intro add sub mul arith eq ne lt le gt ge neg conv mn mx not beq len at' ln bd cut app allS isNil mks set o hP F ho
  rw [← ho] at k1 k3
  cbv
  rw [k1]; cbv
  rw [F.eq_f (i := 2) (j := 1) (by decide)]; cbv
  rw [F.eq_t rfl]; cbv
  rw [k3]; cbv
  rw [hQ]; cbv
  exact congrArg some hr
 ·have hv' : z = ⟨h.versions, sel (notTag n) idE h.exts⟩ := by rw [hv, if_neg (by decide), if_neg (by decide), if_pos rfl]
  rw [hv']
  simp only
  rw [← hdv, ← hes]
  generalize hr : (⟨_, [], none⟩ : Ret) = r
  refine fix_fn2 (fn := ir117) tb_117 rfl rfl (by decide) rfl ?_; intro Q hQ; simp only [shutArgs, shutS, List.map_cons, List.map_nil, ir117, shut_in q0, shut_in q1, List.head?_nil, reduceCtorEq, if_false, sExt, sHello, sAnswer, sEdit, sDeal, sBox, sDialed, sKnown]
  intro add sub mul arith eq ne lt le gt ge neg conv mn mx not beq len at' ln bd cut app allS isNil mks set o hP F ho
  rw [← ho] at k1 k6
  cbv
  rw [k1]; cbv
  rw [F.eq_f (i := 3) (j := 1) (by decide)]; cbv
  rw [F.eq_f (i := 3) (j := 2) (by decide)]; cbv
  rw [F.eq_t rfl]; cbv
  rw [k6]; cbv
  rw [hQ]; cbv
  exact congrArg some hr
 ·have hv' : z = if u = true then ⟨h.versions, ehX h n⟩ else h := by rw [hv, if_neg (by decide), if_neg (by decide), if_neg (by decide), if_pos rfl]
  have hb : u = true ∨ u = false := by cases u <;> simp
  rcases hb with rfl | rfl
  all_goals
   simp only [if_true, Bool.false_eq_true, if_false] at hv'
   rw [hv']
   try simp only
   rw [← hdv]
   first | rw [← hex] | rw [← hdx]
   generalize hr : (⟨_, [], none⟩ : Ret) = r
   refine fix_fn2 (fn := ir117) tb_117 rfl rfl (by decide) rfl ?_; intro Q hQ; simp only [shutArgs, shutS, List.map_cons, List.map_nil, ir117, shut_in q0, shut_in q1, List.head?_nil, reduceCtorEq, if_false, sExt, sHello, sAnswer, sEdit, sDeal, sBox, sDialed, sKnown]
   intro add sub mul arith eq ne lt le gt ge neg conv mn mx not beq len at' ln bd cut app allS isNil mks set o hP F ho
   have p1 : app 2 dx [[.int .i64 n, .row () []]] = some ex := by rw [hex]; exact F.push (f := fExt) (x := ⟨n, []⟩) hdx (fun _ => rfl) rfl (by omega)
   have p2 : allS [[.int .i64 n, .row () []]] = false := by rw [F.allS]; rfl
   rw [← ho] at k1 k4 k5
   cbv
   rw [k1]; cbv
   rw [F.eq_f (i := 6) (j := 1) (by decide)]; cbv
   rw [F.eq_f (i := 6) (j := 2) (by decide)]; cbv
   rw [F.eq_f (i := 6) (j := 3) (by decide)]; cbv
   rw [F.eq_t rfl]; cbv
   rw [k4]; cbv
   rw [p2]; cbv
   rw [p1]; cbv
   rw [k5]; cbv
   rw [hQ]; cbv
   exact congrArg some hr
 ·have hv' : z = h := by rw [hv, if_neg n1, if_neg n2, if_neg n3, if_neg n6]
  rw [hv', ← hdv, ← hdx]
  generalize hr : (⟨_, [], none⟩ : Ret) = r
  refine fix_fn2 (fn := ir117) tb_117 rfl rfl (by decide) rfl ?_; intro Q hQ; simp only [shutArgs, shutS, List.map_cons, List.map_nil, ir117, shut_in q0, shut_in q1, List.head?_nil, reduceCtorEq, if_false, sExt, sHello, sAnswer, sEdit, sDeal, sBox, sDialed, sKnown]
  intro add sub mul arith eq ne lt le gt ge neg conv mn mx not beq len at' ln bd cut app allS isNil mks set o hP F ho
  rw [← ho] at k1
  cbv
  rw [k1]; cbv
  rw [F.eq_f n1]; cbv
  rw [F.eq_f n2]; cbv
  rw [F.eq_f n3]; cbv
  rw [F.eq_f n6]; cbv
  rw [hQ]; cbv
  exact congrArg some hr
def modV (n m : Int) : Int := if inR m 1 1000000000000 = true then Int.tmod (IntKind.wrap .i64 (Int.tmod n m + m)) m else 0
theorem rem_nz {n m : Int} (h : m ≠ 0) : std.arith .rem .i64 n m = some (.int .i64 (Int.tmod n m)) := by
 show (if m = 0 then none else some (VA.int .i64 (Int.tmod n m))) = _
 rw [if_neg h]
theorem ok348 (n m : Int) : fix Tb md 348 [I n, I m] = some ⟨[I (modV n m)], [], none⟩ := by
 obtain ⟨T, hT⟩ := nm (modV n m)
 rw [← hT]
 generalize hr : (⟨_, [], none⟩ : Ret) = r
 obtain ⟨v, hv⟩ := nm (inR m 1 1000000000000)
 refine fix_fn2 (fn := ir348) tb_348 rfl rfl (by decide) rfl ?_; intro Q hQ; simp only [shutArgs, shutS, List.map_cons, List.map_nil, ir348, List.head?_nil, reduceCtorEq, if_false, sExt, sHello, sAnswer, sEdit, sDeal, sBox, sDialed, sKnown]
 intro add sub mul arith eq ne lt le gt ge neg conv mn mx not beq len at' ln bd cut app allS isNil mks set o hP F ho
 have c1 : o 230 [I m, I 1, I 1000000000000] = some ⟨[B v], [], none⟩ := by rw [ho, hv]; exact ok230 ..
 cbv
 rw [c1]; cbv
 refine both (fun d1 => ?_) (fun d1 => ?_) <;> rw [d1] <;> cbv
 ·rw [hQ]; cbv
  have hv0 := F.not_t d1
  rw [← hr, hT]; unfold modV; rw [← hv, hv0]; rfl
 have hv1 := F.not_f d1
 have hm : m ≠ 0 := by rw [hv] at hv1; simp [inR] at hv1; omega
 obtain ⟨n1, hn1⟩ := nm (Int.tmod n m)
 obtain ⟨n2, hn2⟩ := nm (add .i64 n1 m)
 obtain ⟨n3, hn3⟩ := nm (Int.tmod n2 m)
 rw [show arith .rem .i64 n m = some (.int .i64 n1) by rw [F.arith, hn1]; exact rem_nz hm]; cbv
 rw [← hn2]
 rw [show arith .rem .i64 n2 m = some (.int .i64 n3) by rw [F.arith, hn3]; exact rem_nz hm]; cbv
 rw [hQ]; cbv
 rw [← hr, hT]; unfold modV; rw [← hv, hv1, if_pos rfl, hn3, hn2, hn1, F.add]
def hstep (d x : Int) : Int := Int.tmod (IntKind.wrap .i64 (IntKind.wrap .i64 (IntKind.wrap .i64 (d * 1000003) + modV x 2147483647) + 13)) 2147483647
def hashV (l : List Int) : Int := l.foldl hstep 11
theorem ok268 (l : List Int) (hl : l.length ≤ 1099511627776) {f0 : Fl} (h0 : inFl f0 = true) : fix Tb md 268 [R (row fI l) f0] = some ⟨[I (hashV l)], [], none⟩ := by
 obtain ⟨T, hT⟩ := nm (hashV l)
 rw [← hT]
 generalize hr : (⟨_, [], none⟩ : Ret) = r
 obtain ⟨ea, hea⟩ := nm (row fI l)
 rw [← hea]
 refine fix_fn2 (fn := ir268) tb_268 rfl rfl (by decide) rfl ?_; intro Q hQ; simp only [shutArgs, shutS, List.map_cons, List.map_nil, ir268, shut_in h0, List.head?_nil, reduceCtorEq, if_false, sExt, sHello, sAnswer, sEdit, sDeal, sBox, sDialed, sKnown]
 intro add sub mul arith eq ne lt le gt ge neg conv mn mx not beq len at' ln bd cut app allS isNil mks set o hP F ho
 have la := F.len_at hea
 cbv
 refine loop_ind2 hP (σ := List Int × List Int × Int × Int) (fun s => [(0, R ea .sh), (2, I 0), (3, I s.2.2.1), (4, I s.2.2.2)]) (fun s => At s.2.2.2 s.2.1.length ∧ l = s.2.1 ++ s.1 ∧ s.1.foldl hstep s.2.2.1 = T) (fun s => s.1.length) (l, [], 11, 0) rfl ⟨rfl, rfl, hT.symm⟩ ?_
 intro c1 Q1 hc1 hQ1
 rintro ⟨suf, pre, d, i⟩ ⟨hi, hl', hb⟩ ih
 simp only at hi hl' hb ih
 cbv
 cases suf with
 | nil =>
  rw [F.lt_f hi la (by simp [hl'])]; cbv
  rw [hQ1]; cbv
  rw [hQ]; cbv
  rw [← hr, ← hb]; rfl
 | cons x suf =>
  rw [List.foldl_cons] at hb
  rw [F.lt_t hi la (by simp [hl'])]; cbv
  obtain ⟨ix, hix⟩ := nm (pre.length * 1)
  rw [show at' 1 ea i = some (ix, [.int .i64 x]) by rw [hix]; exact F.get hi hea hl' (fun _ => rfl) (by decide)]; cbv
  obtain ⟨v, hv⟩ := nm (modV x 2147483647)
  rw [show o 348 [I x, I 2147483647] = some ⟨[I v], [], none⟩ by rw [ho, hv]; exact ok348 ..]; cbv
  obtain ⟨d', hd'⟩ := nm (hstep d x)
  rw [show arith .rem .i64 (add .i64 (add .i64 (mul .i64 d 1000003) v) 13) 2147483647 = some (.int .i64 d') by rw [F.arith, hd', F.add, F.add, F.mul]; unfold hstep; rw [← hv]; exact rem_nz (by decide)]; cbv
  rw [← hd'] at hb
  refine ih (suf, pre ++ [x], d', add .i64 i 1) ⟨at_len (F.inc hi (by simp [hl'] at hl; omega)) (by simp), by simp [hl'], hb⟩ (by simp)
def isTr (l : List (List Int)) : Bool := l.all bytes && decide (l.length ≤ 12)
theorem ok71 (l : List (List Int)) (w : l.length ≤ 1048576 ∧ ∀ y ∈ l, y.length ≤ 1048576) {f0 : Fl} (h0 : inFl f0 = true) : fix Tb md 71 [R (row fR l) f0] = some ⟨[B (isTr l)], [], none⟩ := by
 have w1 := w.1
 refine fix_fn (fn := ir71) tb_71 rfl rfl (by decide) rfl ?_; simp only [shutArgs, shutS, List.map_cons, List.map_nil, ir71, shut_in h0, List.head?_nil, reduceCtorEq, if_false, sExt, sHello, sAnswer, sEdit, sDeal, sBox, sDialed, sKnown]
 generalize hr : (⟨_, [], none⟩ : Ret) = r
 obtain ⟨ea, hea⟩ := nm (row fR l)
 rw [← hea]
 intro add sub mul arith eq ne lt le gt ge neg conv mn mx not beq len at' ln bd cut app allS isNil mks set o hP F ho
 have la := F.len_at hea
 cbv
 refine loop_ind hP (σ := List (List Int) × List (List Int) × Int) (fun s => [(0, R ea .sh), (2, B false), (3, I s.2.2)]) (fun s => At s.2.2 s.1.length ∧ l = s.1 ++ s.2.1 ∧ s.1.all bytes = true) (fun s => s.2.1.length) ([], l, 0) rfl ⟨rfl, rfl, rfl⟩ ?_
 rintro ⟨pre, suf, i⟩ ⟨hi, hl', hb⟩ ih
 simp only at hi hl' hb ih
 cbv
 cases suf with
 | nil =>
  rw [F.lt_f hi la (by simp [hl'])]; cbv
  have h12 : le (len ea) 12 = decide (l.length ≤ 12) := by unfold At at la; rw [F.le, la]; simp; omega
  have hall : l.all bytes = true := by rw [hl', List.append_nil]; exact hb
  rw [h12, ← hr, isTr, hall, Bool.true_and]
 | cons x suf =>
  rw [F.lt_t hi la (by simp [hl'])]; cbv
  obtain ⟨ix, hix⟩ := nm (pre.length * 1)
  obtain ⟨e1, he1⟩ := nm (row fI x)
  rw [show at' 1 ea i = some (ix, [.row () e1]) by rw [hix, he1]; exact F.get hi hea hl' (fun _ => rfl) (by decide)]; cbv
  obtain ⟨v, hv⟩ := nm (bytes x)
  rw [show o 231 [R e1 (.sp 0 0)] = some ⟨[B v], [], none⟩ by rw [ho, hv, he1]; exact ok231 x (by have := w.2 x (by rw [hl']; simp); omega) rfl]; cbv
  refine both (fun c => ?_) (fun c => ?_) <;> rw [c] <;> cbv
  ·rw [← hr, hl']
   rw [F.not] at c
   simp [isTr] at *
   simp_all
  ·rw [F.not] at c
   simp at c
   refine ih (pre ++ [x], suf, add .i64 i 1) ⟨at_len (F.inc hi (by simp [hl'] at w1; omega)) (by simp), by simp [hl'], ?_⟩ (by simp)
   rw [List.all_append, hb]
   simp [← hv, c]
end Go.Vm
