/- What the functions answer. -/
import Derived.Test.YthfbmkhjanmeaaaGETab
import Derived.Test.YthfbmkhjanmeaaaGEFA
set_option maxHeartbeats 4000000
set_option maxRecDepth 10000
set_option linter.unusedVariables false
set_option linter.unusedSimpArgs false
namespace Go.Vm
theorem ok352 (e : Ext) (t : Int) {f0 : Fl} (h0 : inFl f0 = true) : fix Tb md 352 [sExt e.tag (row fI e.body) f0, ⟨.val, [⟨.ptr () [.int .i64 t], .sh⟩]⟩] = some ⟨[B (tagP t e)], [], none⟩ := by
 generalize hr : (⟨_, [], none⟩ : Ret) = r
 obtain ⟨ey, hey⟩ := nm (row fI e.body)
 rw [← hey]
 refine fix_fn2 (fn := ir352) tb_352 rfl rfl (by decide) rfl ?_; intro Q hQ; simp only [shutArgs, shutS, List.map_cons, List.map_nil, ir352, shut_in h0, List.head?_nil, reduceCtorEq, if_false, sExt, sHello, sAnswer, sEdit, sDeal, sBox, sDialed, sKnown]
 intro add sub mul arith eq ne lt le gt ge neg conv mn mx not beq len at' ln bd cut app allS isNil mks set o hP F ho
 cbv
 rw [hQ]; cbv
 rw [← hr, F.eq]; rfl
theorem ok290 (l : List Ext) (t : Int) (hl : l.length ≤ 1099511627776) {f0 : Fl} (h0 : inFl f0 = true) : fix Tb md 290 [R (row fExt l) f0, I t] = some ⟨[I (extOf l t)], [], none⟩ := by
 obtain ⟨T, hT⟩ := nm (extOf l t)
 rw [← hT]
 generalize hr : (⟨_, [], none⟩ : Ret) = r
 obtain ⟨ea, hea⟩ := nm (row fExt l)
 rw [← hea]
 refine fix_fn2 (fn := ir290) tb_290 rfl rfl (by decide) rfl ?_; intro Q hQ; simp only [shutArgs, shutS, List.map_cons, List.map_nil, ir290, shut_in h0, List.head?_nil, reduceCtorEq, if_false, sExt, sHello, sAnswer, sEdit, sDeal, sBox, sDialed, sKnown]
 intro add sub mul arith eq ne lt le gt ge neg conv mn mx not beq len at' ln bd cut app allS isNil mks set o hP F ho
 have c1 : o 351 [R ea (.sp 0 0), ⟨.val, [⟨.fn 352 [.ptr () [.int .i64 t]], .sh⟩]⟩] = some ⟨[I T], [], none⟩ := by rw [ho, hT, hea]; exact ok351_1 352 rfl _ (tagP t) l hl (fun x _ => ok352 x t rfl) rfl
 cbv
 rw [c1]; cbv
 rw [hQ]; cbv
 exact congrArg some hr
theorem ok258 (l : List Ext) (hl : l.length ≤ 1099511627776) (w : ∀ y ∈ l, y.body.length ≤ 1099511627776) {f0 : Fl} (h0 : inFl f0 = true) : fix Tb md 258 [R (row fExt l) f0] = some ⟨[B (areEx l)], [], none⟩ := by
 obtain ⟨T, hT⟩ := nm (exOk [] l)
 rw [show areEx l = (T && decide (l.length ≤ 6)) by rw [hT]; rfl]
 generalize hr : (⟨_, [], none⟩ : Ret) = r
 obtain ⟨ea, hea⟩ := nm (row fExt l)
 rw [← hea]
 refine fix_fn2 (fn := ir258) tb_258 rfl rfl (by decide) rfl ?_; intro Q hQ; simp only [shutArgs, shutS, List.map_cons, List.map_nil, ir258, shut_in h0, List.head?_nil, reduceCtorEq, if_false, sExt, sHello, sAnswer, sEdit, sDeal, sBox, sDialed, sKnown]
 intro add sub mul arith eq ne lt le gt ge neg conv mn mx not beq len at' ln bd cut app allS isNil mks set o hP F ho
 have la := F.len_at hea
 have h6 : le (len ea) 6 = decide (l.length ≤ 6) := F.le_n la rfl
 cbv
 refine loop_ind2 hP (σ := List Ext × List Ext × Int × Option (Int × Int × List (List V))) (fun s => match s.2.2.2 with
   | none => [(0, R ea .sh), (2, B false), (5, R ea .sh), (6, I (len ea)), (7, I s.2.2.1)]
   | some j => [(0, R ea .sh), (2, B false), (3, I j.1), (4, ⟨.ptr 45 0, []⟩), (5, R ea .sh), (6, I (len ea)), (7, I s.2.2.1), (45, ⟨.box (), [⟨.int .i64 j.2.1, .sc⟩, ⟨.row () j.2.2, .sh⟩]⟩)]) (fun s => At s.2.2.1 s.2.1.length ∧ l = s.2.1 ++ s.1 ∧ exOk s.2.1 s.1 = T) (fun s => s.1.length) (l, [], 0, none) rfl ⟨rfl, rfl, hT.symm⟩ ?_
 intro c1 Q1 hc1 hQ1
 rintro ⟨suf, pre, i, j⟩ ⟨hi, hl', hb⟩ ih
 simp only at hi hl' hb ih
 rcases j with _ | ⟨j3, j4, j5⟩
 all_goals
  cbv
  cases suf with
  | nil =>
   rw [F.lt_f hi la (by simp [hl'])]; cbv
   rw [hQ1]; cbv
   rw [hQ]; cbv
   rw [h6, ← hr, ← hb]; rfl
  | cons x suf =>
   obtain ⟨ix, hix⟩ := nm (pre.length * 2)
   obtain ⟨e1, he1⟩ := nm (row fI x.body)
   have l1 := F.len_at he1
   have hx := w x (by rw [hl']; simp)
   have hpre : pre.length ≤ 1099511627776 := by rw [hl'] at hl; simp at hl; omega
   have p0 : at' 2 ea i = some (ix, [.int .i64 x.tag, .row () e1]) := by rw [hix, he1]; exact F.get hi hea hl' (fun _ => rfl) (by decide)
   obtain ⟨b1, hb1⟩ := nm (inR x.tag 0 255)
   obtain ⟨b2, hb2⟩ := nm (decide (4 < x.body.length))
   obtain ⟨b3, hb3⟩ := nm (bytes x.body)
   obtain ⟨b4, hb4⟩ := nm (pre.any (tagP x.tag))
   obtain ⟨ep, hep⟩ := nm (row fExt pre)
   obtain ⟨v, hv⟩ := nm (extOf pre x.tag)
   have g4 : gt (len e1) 4 = b2 := by rw [hb2]; exact F.gt_n l1 rfl
   have c1 : o 232 [I x.tag, I 0, I 255] = some ⟨[B b1], [], none⟩ := by rw [ho, hb1]; exact ok232 ..
   have c3 : o 233 [R e1 (.sp 0 0), I 0, I 255] = some ⟨[B b3], [], none⟩ := by rw [ho, hb3, he1]; exact ok233 _ _ _ hx rfl
   have c4 : o 290 [R ep (.sp 0 0), I x.tag] = some ⟨[I v], [], none⟩ := by rw [ho, hv, hep]; exact ok290 _ _ hpre rfl
   have g5 : ge v 0 = b4 := by rw [F.ge, hv, hb4]; exact ixOf_ge (tagP x.tag) pre 0 (by decide)
   have hT' : T = (b1 && !b2 && b3 && !b4 && exOk (pre ++ [x]) suf) := by rw [← hb, hb1, hb2, hb3, hb4]; rfl
   obtain ⟨n, hn⟩ := nm (pre.length)
   have q1 : bd (ln ea) i = some n := by rw [F.ln' hea, hn]; exact F.bd' hi (by rw [hl']; simp)
   have q2 : cut 2 ea n 0 = some ep := by rw [F.cut' hea (fun _ => rfl), hep, hl', hn]; simp
   rw [F.lt_t hi la (by simp [hl'])]; cbv
   rw [p0]; cbv
   rw [c1]; cbv
   refine both (fun d1 => ?_) (fun d1 => ?_) <;> rw [d1] <;> cbv
   ·rw [hQ1]; cbv
    rw [hQ]; cbv
    rw [← hr, show T = false by rw [hT', F.not_t d1]; rfl]; rfl
   rw [q1]; cbv
   rw [q2]; cbv
   rw [c4]; cbv
   rw [g5]; cbv
   refine both (fun d4 => ?_) (fun d4 => ?_) <;> rw [d4] <;> cbv
   ·rw [hQ1]; cbv
    rw [hQ]; cbv
    rw [← hr, show T = false by rw [hT', d4]; simp]; rfl
   rw [g4]; cbv
   refine both (fun d2 => ?_) (fun d2 => ?_) <;> rw [d2] <;> cbv
   ·rw [hQ1]; cbv
    rw [hQ]; cbv
    rw [← hr, show T = false by rw [hT', d2]; simp]; rfl
   rw [c3]; cbv
   refine both (fun d3 => ?_) (fun d3 => ?_) <;> rw [d3] <;> cbv
   ·rw [hQ1]; cbv
    rw [hQ]; cbv
    rw [← hr, show T = false by rw [hT', F.not_t d3]; simp]; rfl
   refine ih (suf, pre ++ [x], add .i64 i 1, some (i, x.tag, e1)) ⟨at_len (F.inc hi (by omega)) (by simp), by simp [hl'], ?_⟩ (by simp)
   rw [hT', F.not_f d1, d2, F.not_f d3, d4]; simp
theorem ok113 (h : Hello) (hv : h.versions.length ≤ 1099511627776) (hl : h.exts.length ≤ 1099511627776) (w : ∀ y ∈ h.exts, y.body.length ≤ 1099511627776) {f0 f1 : Fl} (h0 : inFl f0 = true) (h1 : inFl f1 = true) : fix Tb md 113 [sHello (row fI h.versions) (row fExt h.exts) f0 f1] = some ⟨[B (isHel h)], [], none⟩ := by
 obtain ⟨a, ha⟩ := nm (areVer h.versions)
 obtain ⟨b, hb⟩ := nm (areEx h.exts)
 rw [show isHel h = (a && b) by rw [ha, hb]; rfl]
 generalize hr : (⟨_, [], none⟩ : Ret) = r
 obtain ⟨ea, hea⟩ := nm (row fI h.versions)
 obtain ⟨eb, heb⟩ := nm (row fExt h.exts)
 rw [← hea, ← heb]
 refine fix_fn2 (fn := ir113) tb_113 rfl rfl (by decide) rfl ?_; intro Q hQ; simp only [shutArgs, shutS, List.map_cons, List.map_nil, ir113, shut_in h0, shut_in h1, List.head?_nil, reduceCtorEq, if_false, sExt, sHello, sAnswer, sEdit, sDeal, sBox, sDialed, sKnown]
 intro add sub mul arith eq ne lt le gt ge neg conv mn mx not beq len at' ln bd cut app allS isNil mks set o hP F ho
 have c1 : o 255 [R ea (.sp 0 0)] = some ⟨[B a], [], none⟩ := by rw [ho, ha, hea]; exact ok255 _ hv rfl
 have c2 : o 258 [R eb (.sp 0 0)] = some ⟨[B b], [], none⟩ := by rw [ho, hb, heb]; exact ok258 _ hl w rfl
 cbv
 rw [c1]; cbv
 refine both (fun d1 => ?_) (fun d1 => ?_) <;> rw [d1] <;> cbv
 ·rw [c2]; cbv
  rw [hQ]; cbv
  rw [← hr, d1]; rfl
 ·rw [hQ]; cbv
  rw [← hr, d1]; rfl
theorem ok229 (a b : List Int) (hl : a.length ≤ 1099511627776) {f0 f1 : Fl} (h0 : inFl f0 = true) (h1 : inFl f1 = true) : fix Tb md 229 [R (row fI a) f0, R (row fI b) f1] = some ⟨[B (decide (a = b))], [], none⟩ := by
 refine fix_fn (fn := ir229) tb_229 rfl rfl (by decide) rfl ?_; simp only [shutArgs, shutS, List.map_cons, List.map_nil, ir229, shut_in h0, shut_in h1, List.head?_nil, reduceCtorEq, if_false, sExt, sHello, sAnswer, sEdit, sDeal, sBox, sDialed, sKnown]
 generalize hr : (⟨_, [], none⟩ : Ret) = r
 obtain ⟨ea, hea⟩ := nm (row fI a)
 obtain ⟨eb, heb⟩ := nm (row fI b)
 rw [← hea, ← heb]
 intro add sub mul arith eq ne lt le gt ge neg conv mn mx not beq len at' ln bd cut app allS isNil mks set o hP F ho
 have la := F.len_at hea
 have lb := F.len_at heb
 cbv
 by_cases hab : a.length = b.length
 ·rw [F.ne_f (by unfold At at la lb; omega)]; cbv
  refine loop_ind hP (σ := List Int × List Int × List Int × Int × Option Int) (fun s => match s.2.2.2.2 with | none => [(0, R ea .sh), (1, R eb .sh), (4, B false), (12, I (len ea)), (13, I s.2.2.2.1)] | some j => [(0, R ea .sh), (1, R eb .sh), (4, B false), (5, I j), (12, I (len ea)), (13, I s.2.2.2.1)]) (fun s => At s.2.2.2.1 s.1.length ∧ a = s.1 ++ s.2.1 ∧ b = s.1 ++ s.2.2.1) (fun s => s.2.1.length) ([], a, b, 0, none) rfl ⟨rfl, rfl, rfl⟩ ?_
  rintro ⟨pre, sa, sb, i, j⟩ ⟨hi, ha, hb⟩ ih
  simp only at hi ha hb ih
  have hlen : sa.length = sb.length := by simp [ha, hb] at hab; exact hab
  cases j <;> cbv <;> (
   match sa, sb, hlen, ha, hb with
   | [], [], _, ha, hb =>
    rw [F.lt_f hi la (by simp [ha])]; cbv
    rw [← hr]; simp [ha, hb]
   | x :: sa, y :: sb, _, ha, hb =>
    rw [F.lt_t hi la (by simp [ha])]; cbv
    obtain ⟨ix, hix⟩ := nm (pre.length * 1)
    rw [show at' 1 ea i = some (ix, [.int .i64 x]) by rw [hix]; exact F.get hi hea ha (fun _ => rfl) (by decide)]; cbv
    rw [show at' 1 eb i = some (ix, [.int .i64 y]) by rw [hix]; exact F.get hi heb hb (fun _ => rfl) (by decide)]; cbv
    by_cases hxy : x = y
    ·rw [F.ne_f hxy]; cbv
     refine ih (pre ++ [x], sa, sb, add .i64 i 1, some i) ⟨at_len (F.inc hi (by simp [ha] at hl; omega)) (by simp), by simp [ha], by simp [hb, hxy]⟩ (by simp)
    ·rw [F.ne_t hxy]; cbv
     rw [← hr]; simp [ha, hb, hxy])
 ·rw [F.ne_t (by unfold At at la lb; omega)]; cbv
  rw [← hr]
  simp
  intro e; exact hab (by rw [e])
theorem ext_cons {x y : Ext} {a b : List Ext} : (x :: a = y :: b) ↔ (x.tag = y.tag ∧ x.body = y.body) ∧ a = b := by rw [List.cons.injEq, Ext.eq_iff]
theorem ok291 (x y : Ext) (hx : x.body.length ≤ 1099511627776) {f0 f1 : Fl} (h0 : inFl f0 = true) (h1 : inFl f1 = true) : fix Tb md 291 [sExt x.tag (row fI x.body) f0, sExt y.tag (row fI y.body) f1] = some ⟨[B (decide (x = y))], [], none⟩ := by
 obtain ⟨v, hv⟩ := nm (decide (x.body = y.body))
 obtain ⟨u, hu⟩ := nm (decide (x.tag = y.tag))
 rw [show decide (x = y) = (u && v) by rw [hu, hv]; simp only [Ext.eq_iff]; by_cases k1 : x.tag = y.tag <;> by_cases k2 : x.body = y.body <;> simp [k1, k2]]
 generalize hr : (⟨_, [], none⟩ : Ret) = r
 obtain ⟨ex, hex⟩ := nm (row fI x.body)
 obtain ⟨ey, hey⟩ := nm (row fI y.body)
 rw [← hex, ← hey]
 refine fix_fn2 (fn := ir291) tb_291 rfl rfl (by decide) rfl ?_; intro Q hQ; simp only [shutArgs, shutS, List.map_cons, List.map_nil, ir291, shut_in h0, shut_in h1, List.head?_nil, reduceCtorEq, if_false, sExt, sHello, sAnswer, sEdit, sDeal, sBox, sDialed, sKnown]
 intro add sub mul arith eq ne lt le gt ge neg conv mn mx not beq len at' ln bd cut app allS isNil mks set o hP F ho
 have c1 : o 229 [R ex (.sp 0 0), R ey (.sp 1 0)] = some ⟨[B v], [], none⟩ := by rw [ho, hv, hex, hey]; exact ok229 _ _ hx rfl rfl
 have g1 : eq x.tag y.tag = u := by rw [F.eq, hu]
 cbv
 rw [g1]; cbv
 refine both (fun d1 => ?_) (fun d1 => ?_) <;> rw [d1] <;> cbv
 ·rw [c1]; cbv
  rw [hQ]; cbv
  rw [← hr, d1]; rfl
 ·rw [hQ]; cbv
  rw [← hr, d1]; rfl
theorem ok350 (a b : List Ext) (hl : a.length ≤ 1099511627776) (w : ∀ y ∈ a, y.body.length ≤ 1099511627776) {f0 f1 : Fl} (h0 : inFl f0 = true) (h1 : inFl f1 = true) : fix Tb md 350 [R (row fExt a) f0, R (row fExt b) f1, ⟨.val, [⟨.fn 291 [], .sh⟩]⟩] = some ⟨[B (decide (a = b))], [], none⟩ := by
 obtain ⟨T, hT⟩ := nm (decide (a = b))
 rw [← hT]
 generalize hr : (⟨_, [], none⟩ : Ret) = r
 obtain ⟨ea, hea⟩ := nm (row fExt a)
 obtain ⟨eb, heb⟩ := nm (row fExt b)
 rw [← hea, ← heb]
 obtain ⟨nb, hnb⟩ := nm (decide (a.length ≠ b.length))
 refine fix_fn2 (fn := ir350) tb_350 rfl rfl (by decide) rfl ?_; intro Q hQ; simp only [shutArgs, shutS, List.map_cons, List.map_nil, ir350, shut_in h0, shut_in h1, List.head?_nil, reduceCtorEq, if_false, sExt, sHello, sAnswer, sEdit, sDeal, sBox, sDialed, sKnown]
 intro add sub mul arith eq ne lt le gt ge neg conv mn mx not beq len at' ln bd cut app allS isNil mks set o hP F ho
 have la := F.len_at hea
 have lb := F.len_at heb
 have hne : ne (len ea) (len eb) = nb := by unfold At at la lb; rw [F.ne, la, lb, hnb]; simp; omega
 cbv
 rw [hne]; cbv
 refine both (fun d0 => ?_) (fun d0 => ?_) <;> rw [d0] <;> cbv
 ·rw [hQ]; cbv
  rw [← hr, show T = false by rw [hT]; rw [hnb] at d0; simp at d0 ⊢; intro e; exact d0 (by rw [e])]
 have hab : a.length = b.length := by rw [hnb] at d0; simpa using d0
 refine loop_ind2 hP (σ := List Ext × List Ext × List Ext × Int × Option (Int × (Int × List (List V)) × (Int × List (List V)))) (fun s => match s.2.2.2.2 with
    | none => [(0, R ea .sh), (1, R eb .sh), (2, ⟨.val, [⟨.fn 291 [], .sh⟩]⟩), (6, B false), (15, R ea .sh), (16, I (len ea)), (17, I s.2.2.2.1)]
    | some j => [(0, R ea .sh), (1, R eb .sh), (2, ⟨.val, [⟨.fn 291 [], .sh⟩]⟩), (6, B false), (7, I j.1), (8, ⟨.ptr 40 0, []⟩), (9, ⟨.ptr 41 0, []⟩), (15, R ea .sh), (16, I (len ea)), (17, I s.2.2.2.1), (40, ⟨.box (), [⟨.int .i64 j.2.1.1, .sc⟩, ⟨.row () j.2.1.2, .sh⟩]⟩), (41, ⟨.box (), [⟨.int .i64 j.2.2.1, .sc⟩, ⟨.row () j.2.2.2, .sh⟩]⟩)]) (fun s => At s.2.2.2.1 s.1.length ∧ a = s.1 ++ s.2.1 ∧ b = s.1 ++ s.2.2.1) (fun s => s.2.1.length) ([], a, b, 0, none) rfl ⟨rfl, rfl, rfl⟩ ?_
 intro c1 Q1 hc1 hQ1
 rintro ⟨pre, sa, sb, i, j⟩ ⟨hi, ha, hb⟩ ih
 simp only at hi ha hb ih
 have hlen : sa.length = sb.length := by simp [ha, hb] at hab; exact hab
 rcases j with _ | ⟨j1, ⟨j2, j3⟩, ⟨j4, j5⟩⟩
 all_goals
  cbv
  match sa, sb, hlen, ha, hb with
  | [], [], _, ha, hb =>
   rw [F.lt_f hi la (by simp [ha])]; cbv
   rw [hQ1]; cbv
   rw [hQ]; cbv
   rw [← hr, hT]; simp [ha, hb]
  | x :: sa, y :: sb, _, ha, hb =>
   obtain ⟨ix, hix⟩ := nm (pre.length * 2)
   obtain ⟨ex, hex⟩ := nm (row fI x.body)
   obtain ⟨ey, hey⟩ := nm (row fI y.body)
   have p0 : at' 2 ea i = some (ix, [.int .i64 x.tag, .row () ex]) := by rw [hix, hex]; exact F.get hi hea ha (fun _ => rfl) (by decide)
   have p1 : at' 2 eb i = some (ix, [.int .i64 y.tag, .row () ey]) := by rw [hix, hey]; exact F.get hi heb hb (fun _ => rfl) (by decide)
   obtain ⟨v, hv⟩ := nm (decide (x = y))
   have hT' : T = (v && decide (sa = sb)) := by
    rw [hT, ha, hb, hv]; simp only [List.append_cancel_left_eq, List.cons.injEq]
    by_cases k1 : x = y <;> simp [k1]
   have c2 : o 291 [sExt x.tag ex (.sp 0 1), sExt y.tag ey (.sp 1 1)] = some ⟨[B v], [], none⟩ := by rw [ho, hv, hex, hey]; exact ok291 _ _ (w x (by rw [ha]; simp)) rfl rfl
   rw [F.lt_t hi la (by simp [ha])]; cbv
   rw [p0]; cbv
   rw [p1]; cbv
   rw [c2]; cbv
   refine both (fun d2 => ?_) (fun d2 => ?_) <;> rw [d2] <;> cbv
   ·rw [hQ1]; cbv
    rw [hQ]; cbv
    rw [← hr, hT', F.not_t d2]; simp
   have hxy : x = y := by
    have e2 := F.not_f d2
    rw [hv] at e2
    simpa using e2
   refine ih (pre ++ [x], sa, sb, add .i64 i 1, some (i, (x.tag, ex), (y.tag, ey))) ⟨at_len (F.inc hi (by simp [ha] at hl; omega)) (by simp), by simp [ha], by simp [hb, hxy]⟩ (by simp)
theorem ok273 (a b : List Ext) (hl : a.length ≤ 1099511627776) (w : ∀ y ∈ a, y.body.length ≤ 1099511627776) {f0 f1 : Fl} (h0 : inFl f0 = true) (h1 : inFl f1 = true) : fix Tb md 273 [R (row fExt a) f0, R (row fExt b) f1] = some ⟨[B (decide (a = b))], [], none⟩ := by
 obtain ⟨v, hv⟩ := nm (decide (a = b))
 rw [← hv]
 generalize hr : (⟨_, [], none⟩ : Ret) = r
 obtain ⟨ea, hea⟩ := nm (row fExt a)
 obtain ⟨eb, heb⟩ := nm (row fExt b)
 rw [← hea, ← heb]
 refine fix_fn2 (fn := ir273) tb_273 rfl rfl (by decide) rfl ?_; intro Q hQ; simp only [shutArgs, shutS, List.map_cons, List.map_nil, ir273, shut_in h0, shut_in h1, List.head?_nil, reduceCtorEq, if_false, sExt, sHello, sAnswer, sEdit, sDeal, sBox, sDialed, sKnown]
 intro add sub mul arith eq ne lt le gt ge neg conv mn mx not beq len at' ln bd cut app allS isNil mks set o hP F ho
 have c1 : o 350 [R ea (.sp 0 0), R eb (.sp 1 0), ⟨.val, [⟨.fn 291 [], .sh⟩]⟩] = some ⟨[B v], [], none⟩ := by rw [ho, hv, hea, heb]; exact ok350 _ _ hl w rfl rfl
 cbv
 rw [c1]; cbv
 rw [hQ]; cbv
 exact congrArg some hr
theorem ok131 (a b : Hello) (hvv : a.versions.length ≤ 1099511627776) (hl : a.exts.length ≤ 1099511627776) (w : ∀ y ∈ a.exts, y.body.length ≤ 1099511627776) {f0 f1 g0 g1 : Fl} (q0 : inFl f0 = true) (q1 : inFl f1 = true) (p0 : inFl g0 = true) (p1 : inFl g1 = true) :
  fix Tb md 131 [sHello (row fI a.versions) (row fExt a.exts) f0 f1, sHello (row fI b.versions) (row fExt b.exts) g0 g1] = some ⟨[B (decide (a = b))], [], none⟩ := by
 obtain ⟨u, hu⟩ := nm (decide (a.versions = b.versions))
 obtain ⟨v, hv⟩ := nm (decide (a.exts = b.exts))
 rw [show decide (a = b) = (u && v) by rw [hu, hv]; simp only [Hello.eq_iff]; by_cases k1 : a.versions = b.versions <;> by_cases k2 : a.exts = b.exts <;> simp [k1, k2]]
 generalize hr : (⟨_, [], none⟩ : Ret) = r
 obtain ⟨d0, hd0⟩ := nm (row fI a.versions)
 obtain ⟨e0, he0⟩ := nm (row fI b.versions)
 obtain ⟨d1, hd1⟩ := nm (row fExt a.exts)
 obtain ⟨e1, he1⟩ := nm (row fExt b.exts)
 rw [← hd0, ← he0, ← hd1, ← he1]
 refine fix_fn2 (fn := ir131) tb_131 rfl rfl (by decide) rfl ?_; intro Q hQ; simp only [shutArgs, shutS, List.map_cons, List.map_nil, ir131, shut_in q0, shut_in q1, shut_in p0, shut_in p1, List.head?_nil, reduceCtorEq, if_false, sExt, sHello, sAnswer, sEdit, sDeal, sBox, sDialed, sKnown]
 intro add sub mul arith eq ne lt le gt ge neg conv mn mx not beq len at' ln bd cut app allS isNil mks set o hP F ho
 have c1 : o 229 [R d0 (.sp 0 0), R e0 (.sp 1 0)] = some ⟨[B u], [], none⟩ := by rw [ho, hu, hd0, he0]; exact ok229 _ _ hvv rfl rfl
 have c2 : o 273 [R d1 (.sp 0 0), R e1 (.sp 1 0)] = some ⟨[B v], [], none⟩ := by rw [ho, hv, hd1, he1]; exact ok273 _ _ hl w rfl rfl
 cbv
 rw [c1]; cbv
 refine both (fun d1 => ?_) (fun d1 => ?_) <;> rw [d1] <;> cbv
 ·rw [c2]; cbv
  rw [hQ]; cbv
  rw [← hr, d1]; rfl
 ·rw [hQ]; cbv
  rw [← hr, d1]; rfl
def isAns (v : Int) (l : List Ext) : Bool := inR v 1 9 && areEx l
def exI (e : Ext) : List Int := e.tag :: (e.body.length : Int) :: e.body
def encX (l : List Ext) : List Int := (l.length : Int) :: l.flatMap exI
theorem exOk_all : ∀ {suf pre : List Ext}, exOk pre suf = true → ∀ y ∈ suf, y.body.length ≤ 4 ∧ inR y.tag 0 255 = true ∧ bytes y.body = true
 | [], _, _, y, hy => by simp at hy
 | x :: suf, pre, h, y, hy => by
  simp only [exOk, Bool.and_eq_true] at h
  obtain ⟨⟨⟨⟨h1, h2⟩, h3⟩, h4⟩, h5⟩ := h
  rcases List.mem_cons.1 hy with rfl | hy
  ·refine ⟨?_, h1, h3⟩
   simp at h2; omega
  ·exact exOk_all h5 y hy
theorem areEx_all {l : List Ext} (h : areEx l = true) : l.length ≤ 6 ∧ ∀ y ∈ l, y.body.length ≤ 4 ∧ inR y.tag 0 255 = true ∧ bytes y.body = true := by
 simp only [areEx, Bool.and_eq_true, decide_eq_true_eq] at h
 exact ⟨h.2, exOk_all h.1⟩
theorem exI_len : ∀ {l : List Ext}, (∀ y ∈ l, y.body.length ≤ 4) → (l.flatMap exI).length ≤ 6 * l.length
 | [], _ => by simp
 | x :: l, h => by
  have h1 := h x (by simp)
  have h2 := exI_len (l := l) (fun y hy => h y (by simp [hy]))
  rw [List.flatMap_cons, List.length_append, List.length_cons]
  simp only [exI, List.length_cons]
  omega
theorem encX_len {l : List Ext} (h : areEx l = true) : (encX l).length ≤ 37 := by
 obtain ⟨h1, h2⟩ := areEx_all h
 have := exI_len (fun y hy => (h2 y hy).1)
 simp only [encX, List.length_cons]
 omega
theorem ok293 (l : List Ext) (hok : areEx l = true) {f0 : Fl} (h0 : inFl f0 = true) : fix Tb md 293 [R (row fExt l) f0] = some ⟨[R (row fI (encX l)) (.ow false), B true], [], none⟩ := by
 obtain ⟨hl, hw⟩ := areEx_all hok
 obtain ⟨et, het⟩ := nm (row fI (encX l))
 rw [← het]
 generalize hr : (⟨_, [], none⟩ : Ret) = r
 obtain ⟨ea, hea⟩ := nm (row fExt l)
 rw [← hea]
 obtain ⟨nl, hnl⟩ := nm ((l.length : Int))
 obtain ⟨e0, he0⟩ := nm (row fI [nl])
 have hen : encX l = nl :: l.flatMap exI := by rw [hnl]; rfl
 refine fix_fn2 (fn := ir293) tb_293 rfl rfl (by decide) rfl ?_; intro Q hQ; simp only [shutArgs, shutS, List.map_cons, List.map_nil, ir293, shut_in h0, List.head?_nil, reduceCtorEq, if_false, sExt, sHello, sAnswer, sEdit, sDeal, sBox, sDialed, sKnown]
 intro add sub mul arith eq ne lt le gt ge neg conv mn mx not beq len at' ln bd cut app allS isNil mks set o hP F ho
 have la := F.len_at hea
 have lna : len ea = nl := by rw [hnl]; exact la
 have la' : At nl l.length := hnl
 have c1 : o 271 [R ea (.sp 0 0)] = some ⟨[B true], [], none⟩ := by rw [ho, hea, ← hok]; exact ok271 _ (by omega) (fun y hy => by have := (hw y hy).1; omega) rfl
 cbv
 rw [c1]; cbv
 rw [show not true = false by rw [F.not]; rfl]; cbv
 rw [lna]
 refine loop_ind2 hP (σ := List Ext × List Ext × List (List V) × Int) (fun s => [(0, R ea .sh), (2, R [] .nl), (3, B false), (4, R s.2.2.1 (.ow false)), (5, I s.2.2.2)]) (fun s => At s.2.2.2 s.2.1.length ∧ l = s.2.1 ++ s.1 ∧ s.2.2.1 = row fI (nl :: s.2.1.flatMap exI)) (fun s => s.1.length) (l, [], [[.int .i64 nl]], 0) rfl ⟨rfl, rfl, rfl⟩ ?_
 intro c1 Q1 hc1 hQ1
 rintro ⟨suf, pre, eo, i⟩ ⟨hi, hl', hb⟩ ih
 simp only at hi hl' hb ih
 have hpre : pre.length ≤ 6 := by rw [hl'] at hl; simp at hl; omega
 have hfl : (pre.flatMap exI).length ≤ 36 := by have := exI_len (l := pre) (fun y hy => (hw y (by rw [hl']; simp [hy])).1); omega
 cbv
 cases suf with
 | nil =>
  rw [F.lt_f hi la (by simp [hl'])]; cbv
  rw [hQ1]; cbv
  rw [hQ]; cbv
  rw [← hr, het, hb, hen, hl', List.append_nil]
 | cons x suf =>
  obtain ⟨ix, hix⟩ := nm (pre.length * 2)
  obtain ⟨e1, he1⟩ := nm (row fI x.body)
  obtain ⟨nb, hnb⟩ := nm ((x.body.length : Int))
  have hx := (hw x (by rw [hl']; simp)).1
  have hxi : exI x = x.tag :: nb :: x.body := by rw [hnb]; rfl
  have p0 : at' 2 ea i = some (ix, [.int .i64 x.tag, .row () e1]) := by rw [hix, he1]; exact F.get hi hea hl' (fun _ => rfl) (by decide)
  have l1 : len e1 = nb := by rw [hnb]; exact F.len_at he1
  obtain ⟨eo1, heo1⟩ := nm (row fI (nl :: pre.flatMap exI ++ [x.tag, nb]))
  obtain ⟨eo2, heo2⟩ := nm (row fI (nl :: (pre ++ [x]).flatMap exI))
  have q1 : app 1 eo [[.int .i64 x.tag], [.int .i64 nb]] = some eo1 := by
   have h := F.app' (f := fI) (k := 1) (e2 := [[.int .i64 x.tag], [.int .i64 nb]]) (l2 := [x.tag, nb]) hb rfl (fun _ => rfl) (by simp only [List.length_cons, List.length_append, List.length_nil]; omega)
   rw [h, heo1]
  have q2 : app 1 eo1 e1 = some eo2 := by
   have h := F.app' (f := fI) (k := 1) heo1 he1 (fun _ => rfl) (by simp only [List.length_cons, List.length_append, List.length_nil]; omega)
   rw [h, heo2, List.flatMap_append, List.flatMap_cons, hxi]; simp
  have q3 : allS [[.int .i64 x.tag], [.int .i64 nb]] = true := by rw [F.allS]; rfl
  have q4 : allS e1 = true := F.scal he1 (fun _ => rfl)
  rw [F.lt_t hi la (by simp [hl'])]; cbv
  rw [p0]; cbv
  repeat' (first | (rw [p0]; cbv) | (rw [l1]; cbv) | (rw [q1]; cbv) | (rw [q2]; cbv) | (rw [q3]; cbv) | (rw [q4]; cbv))
  refine ih (suf, pre ++ [x], eo2, add .i64 i 1) ⟨at_len (F.inc hi (by omega)) (by simp), by simp [hl'], heo2⟩ (by simp)
def ansB (a : Answer) : List Int := if isAns a.version a.exts = true then a.version :: encX a.exts else []
theorem ansB_len (a : Answer) : (ansB a).length ≤ 38 := by
 unfold ansB
 split
 ·rename_i h
  have hok : areEx a.exts = true := by unfold isAns at h; simp at h; exact h.2
  have := encX_len hok
  rw [List.length_cons]; omega
 ·simp
theorem ok118 (v : Int) (l : List Ext) (hl : l.length ≤ 1099511627776) (w : ∀ y ∈ l, y.body.length ≤ 1099511627776) {f0 : Fl} (h0 : inFl f0 = true) : fix Tb md 118 [sAnswer v (row fExt l) f0] = some ⟨[B (isAns v l)], [], none⟩ := by
 obtain ⟨a, ha⟩ := nm (inR v 1 9)
 obtain ⟨b, hb⟩ := nm (areEx l)
 rw [show isAns v l = (a && b) by rw [ha, hb]; rfl]
 generalize hr : (⟨_, [], none⟩ : Ret) = r
 obtain ⟨ea, hea⟩ := nm (row fExt l)
 rw [← hea]
 refine fix_fn2 (fn := ir118) tb_118 rfl rfl (by decide) rfl ?_; intro Q hQ; simp only [shutArgs, shutS, List.map_cons, List.map_nil, ir118, shut_in h0, List.head?_nil, reduceCtorEq, if_false, sExt, sHello, sAnswer, sEdit, sDeal, sBox, sDialed, sKnown]
 intro add sub mul arith eq ne lt le gt ge neg conv mn mx not beq len at' ln bd cut app allS isNil mks set o hP F ho
 have c1 : o 232 [I v, I 1, I 9] = some ⟨[B a], [], none⟩ := by rw [ho, ha]; exact ok232 ..
 have c2 : o 258 [R ea (.sp 0 0)] = some ⟨[B b], [], none⟩ := by rw [ho, hb, hea]; exact ok258 _ hl w rfl
 cbv
 rw [c1]; cbv
 refine both (fun d1 => ?_) (fun d1 => ?_) <;> rw [d1] <;> cbv
 ·rw [c2]; cbv
  rw [hQ]; cbv
  rw [← hr, d1]; rfl
 ·rw [hQ]; cbv
  rw [← hr, d1]; rfl
theorem ok294 (l : List Ext) (hok : areEx l = true) {f0 : Fl} (h0 : inFl f0 = true) : fix Tb md 294 [R (row fExt l) f0] = some ⟨[R (row fI (encX l)) (.ow false), B true], [], none⟩ := by
 obtain ⟨hl, hw⟩ := areEx_all hok
 obtain ⟨et, het⟩ := nm (row fI (encX l))
 rw [← het]
 generalize hr : (⟨_, [], none⟩ : Ret) = r
 obtain ⟨ea, hea⟩ := nm (row fExt l)
 rw [← hea]
 obtain ⟨nl, hnl⟩ := nm ((l.length : Int))
 obtain ⟨e0, he0⟩ := nm (row fI [nl])
 have hen : encX l = nl :: l.flatMap exI := by rw [hnl]; rfl
 refine fix_fn2 (fn := ir294) tb_294 rfl rfl (by decide) rfl ?_; intro Q hQ; simp only [shutArgs, shutS, List.map_cons, List.map_nil, ir294, shut_in h0, List.head?_nil, reduceCtorEq, if_false, sExt, sHello, sAnswer, sEdit, sDeal, sBox, sDialed, sKnown]
 intro add sub mul arith eq ne lt le gt ge neg conv mn mx not beq len at' ln bd cut app allS isNil mks set o hP F ho
 have la := F.len_at hea
 have lna : len ea = nl := by rw [hnl]; exact la
 have la' : At nl l.length := hnl
 have c1 : o 258 [R ea (.sp 0 0)] = some ⟨[B true], [], none⟩ := by rw [ho, hea, ← hok]; exact ok258 _ (by omega) (fun y hy => by have := (hw y hy).1; omega) rfl
 cbv
 rw [c1]; cbv
 rw [show not true = false by rw [F.not]; rfl]; cbv
 rw [lna]
 refine loop_ind2 hP (σ := List Ext × List Ext × List (List V) × Int × Option (Int × List (List V))) (fun s => match s.2.2.2.2 with | none => [(0, R ea .sh), (2, R [] .nl), (3, B false), (4, R s.2.2.1 (.ow false)), (13, R ea .sh), (14, I nl), (15, I s.2.2.2.1)] | some j => [(0, R ea .sh), (2, R [] .nl), (3, B false), (4, R s.2.2.1 (.ow false)), (6, ⟨.ptr 38 0, []⟩), (13, R ea .sh), (14, I nl), (15, I s.2.2.2.1), (38, ⟨.box (), [⟨.int .i64 j.1, .sc⟩, ⟨.row () j.2, .sh⟩]⟩)]) (fun s => At s.2.2.2.1 s.2.1.length ∧ l = s.2.1 ++ s.1 ∧ s.2.2.1 = row fI (nl :: s.2.1.flatMap exI)) (fun s => s.1.length) (l, [], [[.int .i64 nl]], 0, none) rfl ⟨rfl, rfl, rfl⟩ ?_
 intro c1 Q1 hc1 hQ1
 rintro ⟨suf, pre, eo, i, j⟩ ⟨hi, hl', hb⟩ ih
 simp only at hi hl' hb ih
 have hpre : pre.length ≤ 6 := by rw [hl'] at hl; simp at hl; omega
 have hfl : (pre.flatMap exI).length ≤ 36 := by have := exI_len (l := pre) (fun y hy => (hw y (by rw [hl']; simp [hy])).1); omega
 rcases j with _ | ⟨j1, j2⟩
 all_goals
  cbv
  cases suf with
  | nil =>
   rw [F.lt_f hi la' (by simp [hl'])]; cbv
   rw [hQ1]; cbv
   rw [hQ]; cbv
   rw [← hr, het, hb, hen, hl', List.append_nil]
  | cons x suf =>
   obtain ⟨ix, hix⟩ := nm (pre.length * 2)
   obtain ⟨e1, he1⟩ := nm (row fI x.body)
   obtain ⟨nb, hnb⟩ := nm ((x.body.length : Int))
   have hx := (hw x (by rw [hl']; simp)).1
   have hxi : exI x = x.tag :: nb :: x.body := by rw [hnb]; rfl
   have p0 : at' 2 ea i = some (ix, [.int .i64 x.tag, .row () e1]) := by rw [hix, he1]; exact F.get hi hea hl' (fun _ => rfl) (by decide)
   have l1 : len e1 = nb := by rw [hnb]; exact F.len_at he1
   obtain ⟨eo1, heo1⟩ := nm (row fI (nl :: pre.flatMap exI ++ [x.tag, nb]))
   obtain ⟨eo2, heo2⟩ := nm (row fI (nl :: (pre ++ [x]).flatMap exI))
   have q1 : app 1 eo [[.int .i64 x.tag], [.int .i64 nb]] = some eo1 := by
    have h := F.app' (f := fI) (k := 1) (e2 := [[.int .i64 x.tag], [.int .i64 nb]]) (l2 := [x.tag, nb]) hb rfl (fun _ => rfl) (by simp only [List.length_cons, List.length_append, List.length_nil]; omega)
    rw [h, heo1]
   have q2 : app 1 eo1 e1 = some eo2 := by
    have h := F.app' (f := fI) (k := 1) heo1 he1 (fun _ => rfl) (by simp only [List.length_cons, List.length_append, List.length_nil]; omega)
    rw [h, heo2, List.flatMap_append, List.flatMap_cons, hxi]; simp
   have q3 : allS [[.int .i64 x.tag], [.int .i64 nb]] = true := by rw [F.allS]; rfl
   have q4 : allS e1 = true := F.scal he1 (fun _ => rfl)
   rw [F.lt_t hi la' (by simp [hl'])]; cbv
   rw [p0]; cbv
   repeat' (first | (rw [p0]; cbv) | (rw [l1]; cbv) | (rw [q1]; cbv) | (rw [q2]; cbv) | (rw [q3]; cbv) | (rw [q4]; cbv))
   refine ih (suf, pre ++ [x], eo2, add .i64 i 1, some (x.tag, e1)) ⟨at_len (F.inc hi (by omega)) (by simp), by simp [hl'], heo2⟩ (by simp)
theorem ok152 (a : Answer) (hl : a.exts.length ≤ 1099511627776) (w : ∀ y ∈ a.exts, y.body.length ≤ 1099511627776) {f0 : Fl} (h0 : inFl f0 = true) : fix Tb md 152 [sAnswer a.version (row fExt a.exts) f0] = some ⟨[R (row fI (ansB a)) (.ow false)], [], none⟩ ∨ (ansB a = [] ∧ fix Tb md 152 [sAnswer a.version (row fExt a.exts) f0] = some ⟨[R [] .nl], [], none⟩) := by
 obtain ⟨u, hu⟩ := nm (isAns a.version a.exts)
 cases hu2 : u with
 | true =>
  rw [hu2] at hu
  have hok : areEx a.exts = true := by unfold isAns at hu; cases h : areEx a.exts with | true => rfl | false => rw [h, Bool.and_false] at hu; exact Bool.noConfusion hu
  refine .inl ?_
  obtain ⟨et, het⟩ := nm (row fI (ansB a))
  rw [← het]
  generalize hr : (⟨_, [], none⟩ : Ret) = r
  obtain ⟨ea, hea⟩ := nm (row fExt a.exts)
  rw [← hea]
  obtain ⟨ex, hex⟩ := nm (row fI (encX a.exts))
  have hlen := encX_len hok
  refine fix_fn2 (fn := ir152) tb_152 rfl rfl (by decide) rfl ?_; intro Q hQ; simp only [shutArgs, shutS, List.map_cons, List.map_nil, ir152, shut_in h0, List.head?_nil, reduceCtorEq, if_false, sExt, sHello, sAnswer, sEdit, sDeal, sBox, sDialed, sKnown]
  intro add sub mul arith eq ne lt le gt ge neg conv mn mx not beq len at' ln bd cut app allS isNil mks set o hP F ho
  have c1 : o 118 [sAnswer a.version ea (.sp 0 1)] = some ⟨[B true], [], none⟩ := by rw [ho, hu, hea]; exact ok118 _ _ hl w rfl
  have c2 : o 294 [R ea (.sp 0 0)] = some ⟨[R ex (.ow false), B true], [], none⟩ := by rw [ho, hea, hex]; exact ok294 _ hok rfl
  have q1 : app 1 [[.int .i64 a.version]] ex = some et := by
   have h := F.app' (f := fI) (k := 1) (e1 := [[.int .i64 a.version]]) (l1 := [a.version]) rfl hex (fun _ => rfl) (by simp; omega)
   rw [h, het, ansB, ← hu, if_pos rfl]; rfl
  have q2 : allS ex = true := F.scal hex (fun _ => rfl)
  cbv
  rw [c1]; cbv
  rw [show not true = false by rw [F.not]; rfl]; cbv
  rw [c2]; cbv
  rw [q2]; cbv
  rw [q1]; cbv
  rw [hQ]; cbv
  exact congrArg some hr
 | false =>
  rw [hu2] at hu
  refine .inr ⟨by rw [ansB, ← hu]; rfl, ?_⟩
  generalize hr : (⟨_, [], none⟩ : Ret) = r
  obtain ⟨ea, hea⟩ := nm (row fExt a.exts)
  rw [← hea]
  refine fix_fn2 (fn := ir152) tb_152 rfl rfl (by decide) rfl ?_; intro Q hQ; simp only [shutArgs, shutS, List.map_cons, List.map_nil, ir152, shut_in h0, List.head?_nil, reduceCtorEq, if_false, sExt, sHello, sAnswer, sEdit, sDeal, sBox, sDialed, sKnown]
  intro add sub mul arith eq ne lt le gt ge neg conv mn mx not beq len at' ln bd cut app allS isNil mks set o hP F ho
  have c1 : o 118 [sAnswer a.version ea (.sp 0 1)] = some ⟨[B false], [], none⟩ := by rw [ho, hu, hea]; exact ok118 _ _ hl w rfl
  cbv
  rw [c1]; cbv
  rw [show not false = true by rw [F.not]; rfl]; cbv
  rw [hQ]; cbv
  exact congrArg some hr
theorem ok299 (l : List Int) (hl : l.length ≤ 1099511627776) {f0 : Fl} (h0 : inFl f0 = true) : fix Tb md 299 [R (row fI l) f0] = some ⟨[R (row fI l) (.ow false)], [], none⟩ := by
 refine fix_special tb_299 (by decide) ?_
 show special 1 _ = _
 have h1 : (row fI l).all (fun e => e.all scal && e.length = 1) = true := by
  rw [List.all_eq_true]; intro e he
  obtain ⟨x, _, rfl⟩ := List.mem_map.1 he
  rfl
 have h2 : (row fI l).length ≤ lim := by unfold row; simpa [lim] using hl
 have h3 : inF0 f0 = true := by cases f0 <;> first | rfl | cases h0
 show special 1 [⟨.val, [⟨.row () (row fI l), f0⟩]⟩] = _
 simp only [special, h1, h3, decide_eq_true h2, Bool.and_self, if_true]
def inLen (n : Int) (suf : List Int) : Bool := inR n 0 (suf.length : Int)
def inMin (n : Int) (suf : List Int) : Bool := inR n 0 (min 4 (suf.length : Int))
def lenNe (es : List Ext) (c : Int) : Bool := decide ((es.length : Int) ≠ c)
def decS (suf : List Int) (acc : List Ext) : Option (List Ext) := match suf with
 | [] => some acc
 | [_] => none
 | t :: n :: suf => if inLen n suf then decS (suf.drop n.toNat) (acc ++ [⟨t, suf.take n.toNat⟩]) else none
termination_by suf.length
decreasing_by simp; omega
def decR (c : Int) : Option (List Ext) → List Ext × Bool
 | none => ([], false)
 | some es => if lenNe es c then ([], false) else if areEx es then (es, true) else ([], false)
def decP : List Int → List Ext × Bool
 | [] => ([], false)
 | c :: rest => decR c (decS rest [])
def decI : Nat → List Int → List Ext → Option (List Ext × List Int)
 | 0, suf, acc => some (acc, suf)
 | k + 1, t :: n :: suf, acc => if inMin n suf then decI k (suf.drop n.toNat) (acc ++ [⟨t, suf.take n.toNat⟩]) else none
 | _ + 1, _, _ => none
def decF : Option (List Ext × List Int) → List Ext × Bool
 | none => ([], false)
 | some (es, suf) => if suf.isEmpty then (if areEx es then (es, true) else ([], false)) else ([], false)
def decQ : List Int → List Ext × Bool
 | [] => ([], false)
 | c :: rest => if inR c 0 6 then decF (decI c.toNat rest []) else ([], false)
theorem cut_mid {pre suf : List Int} {t n : Int} {k : Nat} : ((pre ++ t :: n :: suf).take (pre.length + 2 + k)).drop (pre.length + 2) = suf.take k := by
 rw [List.drop_take, show pre.length + 2 + k - (pre.length + 2) = k by omega, show pre ++ t :: n :: suf = (pre ++ [t, n]) ++ suf by simp, List.drop_left' (by simp)]
theorem inR_iff {n a b : Int} : inR n a b = true ↔ a ≤ n ∧ n ≤ b := by
 unfold inR; simp
theorem exOk_bodies : ∀ (suf pre : List Ext), exOk pre suf = true → ∀ y ∈ suf, y.body.length ≤ 4
 | [], _, _ => by simp
 | x :: suf, pre, h => by
  unfold exOk at h
  simp only [Bool.and_eq_true, Bool.not_eq_true', decide_eq_false_iff_not] at h
  intro y hy
  rcases List.mem_cons.1 hy with rfl | hy
  ·have := h.1.1.1.2; omega
  ·exact exOk_bodies suf _ h.2 y hy
theorem decS_I (k : Nat) : ∀ (suf : List Int) (acc es : List Ext), decS suf acc = some es → es.length = acc.length + k → (∀ y ∈ es, y.body.length ≤ 4) → decI k suf acc = some (es, []) := by
 induction k with
 | zero =>
  intro suf acc es h hl hw
  have key : ∀ (m : Nat) (suf : List Int) (acc es : List Ext), suf.length ≤ m → decS suf acc = some es → acc.length ≤ es.length ∧ (es.length = acc.length → suf = [] ∧ es = acc) := by
   intro m
   induction m with
   | zero =>
    intro suf acc es hm h
    have : suf = [] := List.length_eq_zero_iff.1 (by omega)
    subst this
    rw [decS] at h; cases h; exact ⟨by omega, fun _ => ⟨rfl, rfl⟩⟩
   | succ m ih =>
    intro suf acc es hm h
    rw [decS.eq_def] at h
    split at h
    ·cases h; exact ⟨by omega, fun _ => ⟨rfl, rfl⟩⟩
    ·cases h
    ·split at h
     ·have := ih _ _ _ (by simp at hm ⊢; omega) h
      simp only [List.length_append, List.length_cons, List.length_nil] at this
      exact ⟨by omega, fun hh => by omega⟩
     ·cases h
  obtain ⟨rfl, rfl⟩ := (key _ suf acc es (Nat.le_refl _) h).2 hl
  rfl
 | succ k ih =>
  intro suf acc es h hl hw
  rw [decS.eq_def] at h
  split at h
  ·cases h; omega
  ·cases h
  ·rename_i t n suf
   split at h
   ·rename_i hn
    have h5 : (⟨t, suf.take n.toNat⟩ : Ext) ∈ es := decS_mem _ _ _ _ (Nat.le_refl _) h _ (by simp)
    have h6 := hw _ h5
    unfold inLen at hn
    rw [inR_iff] at hn
    simp only [List.length_take] at h6
    have hm : inMin n suf = true := by unfold inMin; rw [inR_iff]; omega
    unfold decI
    rw [if_pos hm]
    exact ih _ _ _ h (by simp; omega) hw
   ·cases h
where
 decS_mem (m : Nat) : ∀ (suf : List Int) (acc es : List Ext), suf.length ≤ m → decS suf acc = some es → ∀ y ∈ acc, y ∈ es := by
  induction m with
  | zero =>
   intro suf acc es hm h y hy
   have : suf = [] := List.length_eq_zero_iff.1 (by omega)
   subst this
   rw [decS] at h; cases h; exact hy
  | succ m ih =>
   intro suf acc es hm h y hy
   rw [decS.eq_def] at h
   split at h
   ·cases h; exact hy
   ·cases h
   ·split at h
    ·exact ih _ _ _ (by simp at hm ⊢; omega) h y (by simp [hy])
    ·cases h
theorem decI_S (k : Nat) : ∀ (suf : List Int) (acc es : List Ext), decI k suf acc = some (es, []) → decS suf acc = some es ∧ es.length = acc.length + k := by
 induction k with
 | zero =>
  intro suf acc es h
  simp only [decI, Option.some.injEq, Prod.mk.injEq] at h
  obtain ⟨rfl, rfl⟩ := h
  exact ⟨by rw [decS], rfl⟩
 | succ k ih =>
  intro suf acc es h
  match suf, h with
  | t :: n :: suf, h =>
   unfold decI at h
   split at h
   ·rename_i hn
    obtain ⟨h1, h2⟩ := ih _ _ _ h
    have hm : inLen n suf = true := by
     unfold inMin at hn; unfold inLen; rw [inR_iff] at hn ⊢; omega
    refine ⟨by rw [decS, if_pos hm]; exact h1, by simp at h2; omega⟩
   ·cases h
  | [], h => simp [decI] at h
  | [_], h => simp [decI] at h
theorem decP_Q (l : List Int) : decP l = decQ l := by
 match l with
 | [] => rfl
 | c :: rest =>
  show decR c (decS rest []) = (if inR c 0 6 = true then decF (decI c.toNat rest []) else ([], false))
  cases hT : decS rest [] with
  | none =>
   split
   ·cases hI : decI c.toNat rest [] with
    | none => rfl
    | some p =>
     obtain ⟨es, suf⟩ := p
     cases suf with
     | nil => rw [(decI_S _ _ _ _ hI).1] at hT; cases hT
     | cons _ _ => rfl
   ·rfl
  | some es =>
   show (if lenNe es c = true then ([], false) else if areEx es = true then (es, true) else ([], false)) = _
   by_cases h1 : lenNe es c = true
   ·rw [if_pos h1]
    split
    ·rename_i hc
     cases hI : decI c.toNat rest [] with
     | none => rfl
     | some p =>
      obtain ⟨es', suf⟩ := p
      cases suf with
      | nil =>
       obtain ⟨h2, h3⟩ := decI_S _ _ _ _ hI
       rw [h2] at hT; cases hT
       rw [inR_iff] at hc
       unfold lenNe at h1
       simp at h1 h3
       omega
      | cons _ _ => rfl
    ·rfl
   ·rw [if_neg h1]
    have hlen : (es.length : Int) = c := by unfold lenNe at h1; simpa using h1
    by_cases h2 : areEx es = true
    ·rw [if_pos h2]
     have h2' := h2
     unfold areEx at h2
     simp only [Bool.and_eq_true, decide_eq_true_eq] at h2
     rw [if_pos (by rw [inR_iff]; omega), decS_I c.toNat rest [] es hT (by simp; omega) (exOk_bodies _ _ h2.1)]
     simp [decF, h2']
    ·rw [if_neg h2]
     split
     ·cases hI : decI c.toNat rest [] with
      | none => rfl
      | some p =>
       obtain ⟨es', suf⟩ := p
       cases suf with
       | nil =>
        obtain ⟨h4, _⟩ := decI_S _ _ _ _ hI
        rw [h4] at hT; cases hT
        simp [decF, h2]
       | cons _ _ => rfl
     ·rfl
theorem decS_mid (m : Nat) : ∀ (suf : List Int) (acc es : List Ext), suf.length ≤ m → decS suf acc = some es → m ≤ 1048576 → acc.length + suf.length ≤ 1048576 → (∀ y ∈ acc, y.body.length ≤ 1048576) → es.length ≤ 1048576 ∧ ∀ y ∈ es, y.body.length ≤ 1048576 := by
 induction m with
 | zero =>
  intro suf acc es hm h _ ha hw
  have : suf = [] := List.length_eq_zero_iff.1 (by omega)
  subst this
  rw [decS] at h; cases h; exact ⟨by simpa using ha, hw⟩
 | succ m ih =>
  intro suf acc es hm h hmm ha hw
  rw [decS.eq_def] at h
  split at h
  ·cases h; exact ⟨by simpa using ha, hw⟩
  ·cases h
  ·split at h
   ·refine ih _ _ _ (by simp at hm ⊢; omega) h (by omega) (by simp at ha ⊢; omega) ?_
    intro y hy
    rcases List.mem_append.1 hy with hy | hy
    ·exact hw y hy
    ·simp at hy; subst hy; simp at hm ⊢; omega
   ·cases h
theorem decP_mid {l : List Int} (hl : l.length ≤ 1048576) : (decP l).1.length ≤ 1048576 ∧ ∀ y ∈ (decP l).1, y.body.length ≤ 1048576 := by
 match l, hl with
 | [], _ => simp [decP]
 | c :: rest, hl =>
  show (decR c (decS rest [])).1.length ≤ _ ∧ ∀ y ∈ (decR c (decS rest [])).1, _
  cases hT : decS rest [] with
  | none => exact ⟨by simp [decR], by simp [decR]⟩
  | some es =>
   have := decS_mid rest.length rest [] es (Nat.le_refl _) hT (by simp at hl; omega) (by simp at hl ⊢; omega) (by simp)
   show (if lenNe es c then ([], false) else if areEx es then (es, true) else ([], false) : List Ext × Bool).1.length ≤ _ ∧ ∀ y ∈ (if lenNe es c then ([], false) else if areEx es then (es, true) else ([], false) : List Ext × Bool).1, _
   split
   ·exact ⟨by simp, by simp⟩
   ·split
    ·exact this
    ·exact ⟨by simp, by simp⟩
theorem decQ_mid {l : List Int} (hl : l.length ≤ 1048576) : (decQ l).1.length ≤ 1048576 ∧ ∀ y ∈ (decQ l).1, y.body.length ≤ 1048576 := by
 rw [← decP_Q]; exact decP_mid hl
theorem decQ_cases (l : List Int) : (∃ es, decQ l = (es, true)) ∨ decQ l = ([], false) := by
 match l with
 | [] => exact .inr rfl
 | c :: rest =>
  show (∃ es, (if inR c 0 6 = true then _ else _) = _) ∨ (if inR c 0 6 = true then _ else _) = _
  split
  ·cases decI c.toNat rest [] with
   | none => exact .inr rfl
   | some p =>
    obtain ⟨es, suf⟩ := p
    unfold decF
    split
    ·exact .inr rfl
    ·rename_i h; cases h
     split
     ·split
      ·exact .inl ⟨_, rfl⟩
      ·exact .inr rfl
     ·exact .inr rfl
  ·exact .inr rfl
def Rem (i c : Int) (k : Nat) : Prop := i + (k : Int) = c ∧ 0 ≤ i ∧ c ≤ 6
theorem ok298_c (c : Int) (rest : List Int) (hl : rest.length ≤ 1073741824) {f0 : Fl} (h0 : inFl f0 = true) (hc : inR c 0 6 = true) (r : Ret) (rF : decF (decI c.toNat rest []) = ([], false) → (⟨[R [] .nl, B false], [], none⟩ : Ret) = r) (rT : ∀ es, decF (decI c.toNat rest []) = (es, true) → (⟨[R (row fExt es) (.ow false), B true], [], none⟩ : Ret) = r) : fix Tb md 298 [R (row fI (c :: rest)) f0] = some r := by
 obtain ⟨T, hT⟩ := nm (decI c.toNat rest [])
 rw [← hT] at rF rT
 have hrem : Rem 0 c c.toNat := by rw [inR_iff] at hc; unfold Rem; omega
 obtain ⟨ea, hea⟩ := nm (row fI (c :: rest))
 rw [← hea]
 refine fix_fn2 (fn := ir298) tb_298 rfl rfl (by decide) rfl ?_; intro Q hQ; simp only [shutArgs, shutS, List.map_cons, List.map_nil, ir298, shut_in h0, List.head?_nil, reduceCtorEq, if_false, sExt, sHello, sAnswer, sEdit, sDeal, sBox, sDialed, sKnown]
 intro add sub mul arith eq ne lt le gt ge neg conv mn mx not beq len at' ln bd cut app allS isNil mks set o hP F ho
 have la := F.len_at hea
 have g0 : eq (len ea) 0 = false := by rw [F.eq_n la (k := 0) (m := 0) rfl]; simp
 obtain ⟨ix0, hix0⟩ := nm (([] : List Int).length * 1)
 have p00 : at' 1 ea 0 = some (ix0, [.int .i64 c]) := by rw [hix0]; exact F.get (pre := []) (i := 0) (show At 0 0 from rfl) hea rfl (fun _ => rfl) (by decide)
 have c0 : o 232 [I c, I 0, I 6] = some ⟨[B true], [], none⟩ := by rw [ho, ← hc]; exact ok232 ..
 have nt : not true = false := by rw [F.not]; rfl
 cbv
 rw [g0]; cbv
 rw [p00]; cbv
 rw [c0]; cbv
 rw [nt]; cbv
 rw [p00]; cbv
 refine loop_ind2 hP (σ := List Int × List Int × List Ext × List (List V) × Int × Int × Nat × Option Int) (fun s => match s.2.2.2.2.2.2.2 with
   | none => [(0, R ea .sh), (2, R [] .nl), (3, B false), (4, R s.2.2.2.1 (.ow false)), (5, I s.2.2.2.2.1), (20, I c), (21, I s.2.2.2.2.2.1)]
   | some j => [(0, R ea .sh), (2, R [] .nl), (3, B false), (4, R s.2.2.2.1 (.ow false)), (5, I s.2.2.2.2.1), (6, I j), (20, I c), (21, I s.2.2.2.2.2.1)]) (fun s => At s.2.2.2.2.1 s.2.1.length ∧ c :: rest = s.2.1 ++ s.1 ∧ s.2.2.2.1 = row fExt s.2.2.1 ∧ decI s.2.2.2.2.2.2.1 s.1 s.2.2.1 = T ∧ s.2.2.1.length ≤ s.2.1.length ∧ (∀ y ∈ s.2.2.1, y.body.length ≤ 1073741824) ∧ Rem s.2.2.2.2.2.1 c s.2.2.2.2.2.2.1) (fun s => s.2.2.2.2.2.2.1) (rest, [c], [], [], 1, 0, c.toNat, none) rfl ⟨rfl, rfl, rfl, hT.symm, by simp, by simp, hrem⟩ ?_
 intro c1 Q1 hc1 hQ1
 rintro ⟨suf, pre, acc, eo, i, q, kk, j⟩ ⟨hi, hl', hb, hd, hk, hw, hrm⟩ ih
 simp only at hi hl' hb hd hk hw hrm ih
 have hlen : pre.length + suf.length = rest.length + 1 := by have := congrArg List.length hl'; simp at this; omega
 have hi1 : At (add .i64 i 1) (pre.length + 1) := F.inc hi (by omega)
 have lo := F.len_at hb
 have hs1 : sub .i64 (len ea) i = (suf.length : Int) := by
  unfold At at hi la
  rw [F.sub, la, hi, wrap64 (by simp; omega) (by simp; omega)]; simp; omega
 rcases j with _ | _
 all_goals
  cbv
  match kk, hd, hrm, ih with
  | 0, hd, hrm, ih =>
   have hT' : T = some (acc, suf) := by rw [← hd]; rfl
   have g1 : lt q c = false := by rw [F.lt]; unfold Rem at hrm; simp; omega
   obtain ⟨z, hz⟩ := nm (suf.isEmpty)
   have g2 : ne i (len ea) = not z := by
    rw [F.ne_n hi (F.len_at hea), F.not, hz, hl']
    cases suf <;> simp
   obtain ⟨v, hv⟩ := nm (areEx acc)
   have c2 : o 258 [R eo (.sp 0 0)] = some ⟨[B v], [], none⟩ := by rw [ho, hv, hb]; exact ok258 _ (by omega) (fun y hy => Nat.le_trans (hw y hy) (by decide)) rfl
   rw [g1]; cbv
   rw [hQ1]; cbv
   rw [g2]; cbv
   refine both (fun d => ?_) (fun d => ?_) <;> rw [d] <;> cbv
   ·rw [hQ]; cbv
    exact congrArg some (rF (by rw [hT', decF, ← hz, F.not_t d]; rfl))
   rw [c2]; cbv
   refine both (fun d2 => ?_) (fun d2 => ?_) <;> rw [d2] <;> cbv
   ·rw [hQ]; cbv
    exact congrArg some (rF (by rw [hT', decF, ← hz, F.not_f d, ← hv, F.not_t d2]; rfl))
   ·rw [hQ]; cbv
    rw [hb]
    exact congrArg some (rT acc (by rw [hT', decF, ← hz, F.not_f d, ← hv, F.not_f d2]; rfl))
  | kk + 1, hd, hrm, ih =>
   have g1 : lt q c = true := by rw [F.lt]; unfold Rem at hrm; simp; omega
   have hrm' : Rem (add .i64 q 1) c kk := by unfold Rem at hrm ⊢; rw [F.add, wrap64 (by omega) (by omega)]; omega
   match suf, hl', hd, hs1, hlen with
   | [], hl', hd, hs1, hlen =>
    have hT' : T = none := by rw [← hd]; rfl
    have g2 : lt (sub .i64 (len ea) i) 2 = true := by rw [F.lt, hs1]; rfl
    rw [g1]; cbv
    rw [g2]; cbv
    rw [hQ1]; cbv
    rw [hQ]; cbv
    exact congrArg some (rF (by rw [hT']; rfl))
   | [t], hl', hd, hs1, hlen =>
    have hT' : T = none := by rw [← hd]; rfl
    have g2 : lt (sub .i64 (len ea) i) 2 = true := by rw [F.lt, hs1]; rfl
    rw [g1]; cbv
    rw [g2]; cbv
    rw [hQ1]; cbv
    rw [hQ]; cbv
    exact congrArg some (rF (by rw [hT']; rfl))
   | t :: n :: suf, hl', hd, hs1, hlen =>
    simp only [List.length_cons] at hlen
    obtain ⟨b1, hb1⟩ := nm (inMin n suf)
    obtain ⟨ix1, hix1⟩ := nm (pre.length * 1)
    obtain ⟨ix2, hix2⟩ := nm ((pre ++ [t]).length * 1)
    have g2 : lt (sub .i64 (len ea) i) 2 = false := by rw [F.lt, hs1]; simp; omega
    have p0 : at' 1 ea i = some (ix1, [.int .i64 t]) := by rw [hix1]; exact F.get hi hea hl' (fun _ => rfl) (by decide)
    have p1 : at' 1 ea (add .i64 i 1) = some (ix2, [.int .i64 n]) := by rw [hix2]; exact F.get (pre := pre ++ [t]) (suf := suf) (at_len hi1 (by simp)) hea (by rw [hl']; simp) (fun _ => rfl) (by decide)
    have hs : mn 4 (sub .i64 (sub .i64 (len ea) i) 2) = min 4 (suf.length : Int) := by
     have h3 : sub .i64 (len ea) i = (suf.length : Int) + 2 := by rw [hs1]; simp only [List.length_cons, Int.natCast_add]; omega
     have h4 : sub .i64 (sub .i64 (len ea) i) 2 = (suf.length : Int) := by rw [h3, F.sub, wrap64 (by omega) (by omega)]; omega
     rw [F.mn, h4]; split <;> omega
    have c3 : o 232 [I n, I 0, I (mn 4 (sub .i64 (sub .i64 (len ea) i) 2))] = some ⟨[B b1], [], none⟩ := by rw [ho, hs, hb1]; exact ok232 ..
    rw [decI, ← hb1] at hd
    rw [g1]; cbv
    rw [g2]; cbv
    rw [p1]; cbv
    rw [c3]; cbv
    refine both (fun d1 => ?_) (fun d1 => ?_) <;> rw [d1] <;> cbv
    ·rw [hQ1]; cbv
     rw [hQ]; cbv
     exact congrArg some (rF (by rw [← hd, F.not_t d1]; rfl))
    have hb1' : b1 = true := F.not_f d1
    rw [hb1', if_pos rfl] at hd
    obtain ⟨hn0, hn1⟩ : 0 ≤ n ∧ n ≤ min 4 (suf.length : Int) := by rw [hb1'] at hb1; have hb1 := hb1.symm; unfold inMin at hb1; rwa [inR_iff] at hb1
    obtain ⟨k, hk⟩ := nm (n.toNat)
    rw [← hk] at hd
    have hkn : n = (k : Int) := by omega
    have hks : k ≤ suf.length := by omega
    obtain ⟨h, hh⟩ := nm (pre.length + 2 + k)
    obtain ⟨lw, hlw⟩ := nm (pre.length + 2)
    have hi2 : At (add .i64 i 2) lw := by unfold At at hi ⊢; rw [F.add, hi, wrap64 (by omega) (by omega), hlw]; omega
    have hi3 : At (add .i64 (add .i64 i 2) n) h := by
     unfold At at hi2 ⊢; rw [F.add, hi2, wrap64 (by omega) (by omega), hh, hlw]; omega
    obtain ⟨eb, heb⟩ := nm (row fI (suf.take k))
    have q1 : bd (ln ea) (add .i64 (add .i64 i 2) n) = some h := by rw [F.ln' hea]; exact F.bd' hi3 (by rw [hl', hh]; simp; omega)
    have q2 : bd h (add .i64 i 2) = some lw := F.bd' hi2 (by omega)
    have q3 : cut 1 ea h lw = some eb := by rw [F.cut' hea (fun _ => rfl), heb, hl', hh, hlw, cut_mid]
    obtain ⟨eo', heo'⟩ := nm (row fExt (acc ++ [⟨t, suf.take k⟩]))
    have c5 : o 299 [R eb (.sp 0 0)] = some ⟨[R eb (.ow false)], [], none⟩ := by rw [ho, heb]; exact ok299 _ (by simp; omega) rfl
    have q6 : allS [[.int .i64 t, .row () eb]] = false := by rw [F.allS]; rfl
    have q7 : app 2 eo [[.int .i64 t, .row () eb]] = some eo' := by rw [heo', heb]; exact F.push hb (fun _ => rfl) rfl (by omega)
    rw [p1]; cbv
    rw [p0]; cbv
    rw [q1]; cbv
    rw [q2]; cbv
    rw [q3]; cbv
    rw [c5]; cbv
    rw [q6]; cbv
    rw [q7]; cbv
    refine ih (suf.drop k, pre ++ t :: n :: suf.take k, acc ++ [⟨t, suf.take k⟩], eo', add .i64 (add .i64 i 2) n, add .i64 q 1, kk, some (add .i64 (add .i64 i 2) n)) ⟨at_len hi3 (by rw [hh]; simp; omega), ?_, heo', hd, by simp; omega, ?_, hrm'⟩ (by simp)
    ·simp only; rw [hl']; simp
    ·intro y hy
     rcases List.mem_append.1 hy with hy | hy
     ·exact hw y hy
     ·simp at hy; subst hy; simp; omega
theorem ok298_b (c : Int) (rest : List Int) {f0 : Fl} (h0 : inFl f0 = true) (hc : inR c 0 6 = false) : fix Tb md 298 [R (row fI (c :: rest)) f0] = some ⟨[R [] .nl, B false], [], none⟩ := by
 generalize hr : (⟨_, [], none⟩ : Ret) = r
 obtain ⟨ea, hea⟩ := nm (row fI (c :: rest))
 rw [← hea]
 refine fix_fn2 (fn := ir298) tb_298 rfl rfl (by decide) rfl ?_; intro Q hQ; simp only [shutArgs, shutS, List.map_cons, List.map_nil, ir298, shut_in h0, List.head?_nil, reduceCtorEq, if_false, sExt, sHello, sAnswer, sEdit, sDeal, sBox, sDialed, sKnown]
 intro add sub mul arith eq ne lt le gt ge neg conv mn mx not beq len at' ln bd cut app allS isNil mks set o hP F ho
 have la := F.len_at hea
 have g0 : eq (len ea) 0 = false := by rw [F.eq_n la (k := 0) (m := 0) rfl]; simp
 obtain ⟨ix0, hix0⟩ := nm (([] : List Int).length * 1)
 have p00 : at' 1 ea 0 = some (ix0, [.int .i64 c]) := by rw [hix0]; exact F.get (pre := []) (i := 0) (show At 0 0 from rfl) hea rfl (fun _ => rfl) (by decide)
 have c0 : o 232 [I c, I 0, I 6] = some ⟨[B false], [], none⟩ := by rw [ho, ← hc]; exact ok232 ..
 have nt : not false = true := by rw [F.not]; rfl
 cbv
 rw [g0]; cbv
 rw [p00]; cbv
 rw [c0]; cbv
 rw [nt]; cbv
 rw [hQ]; cbv
 exact congrArg some hr
theorem ok298 (l : List Int) (hl : l.length ≤ 1073741824) {f0 : Fl} (h0 : inFl f0 = true) (r : Ret) (rF : decQ l = ([], false) → (⟨[R [] .nl, B false], [], none⟩ : Ret) = r) (rT : ∀ es, decQ l = (es, true) → (⟨[R (row fExt es) (.ow false), B true], [], none⟩ : Ret) = r) : fix Tb md 298 [R (row fI l) f0] = some r := by
 cases l with
 | cons c rest =>
  cases hc : inR c 0 6 with
  | true =>
   have h1 : decQ (c :: rest) = decF (decI c.toNat rest []) := by show (if inR c 0 6 = true then _ else _) = _; rw [if_pos hc]
   rw [h1] at rF rT
   exact ok298_c c rest (by simp at hl; omega) h0 hc r rF rT
  | false =>
   have h1 : decQ (c :: rest) = ([], false) := by show (if inR c 0 6 = true then _ else _) = _; rw [hc]; rfl
   rw [← rF h1]
   exact ok298_b c rest h0 hc
 | nil =>
  rw [← rF rfl]
  show fix Tb md 298 [R [] f0] = some ⟨[R [] .nl, B false], [], none⟩
  generalize hr : (⟨_, [], none⟩ : Ret) = r
  refine fix_fn2 (fn := ir298) tb_298 rfl rfl (by decide) rfl ?_; intro Q hQ; simp only [shutArgs, shutS, List.map_cons, List.map_nil, ir298, shut_in h0, List.head?_nil, reduceCtorEq, if_false, sExt, sHello, sAnswer, sEdit, sDeal, sBox, sDialed, sKnown]
  intro add sub mul arith eq ne lt le gt ge neg conv mn mx not beq len at' ln bd cut app allS isNil mks set o hP F ho
  have g0 : eq (len []) 0 = true := by rw [F.eq, F.len]; rfl
  cbv
  rw [g0]; cbv
  rw [hQ]; cbv
  exact congrArg some hr
def inOne (n : Int) (rest : List Int) : Bool := inR n 1 (rest.length : Int)
def inNine (n : Int) (rest : List Int) : Bool := inR n 1 (min 9 (rest.length : Int))
def rdK (vs : List Int) (e : List Ext × Bool) : Hello × Bool := if e.2 then (if isHel ⟨vs, e.1⟩ then (⟨vs, e.1⟩, true) else (⟨[], []⟩, false)) else (⟨[], []⟩, false)
def rdG : List Int → Hello × Bool
 | [] => (⟨[], []⟩, false)
 | n :: rest => if inOne n rest then rdK (rest.take n.toNat) (decP (rest.drop n.toNat)) else (⟨[], []⟩, false)
def rdI : List Int → Hello × Bool
 | [] => (⟨[], []⟩, false)
 | n :: rest => if inNine n rest then rdK (rest.take n.toNat) (decQ (rest.drop n.toNat)) else (⟨[], []⟩, false)
def rdV (l : List Int) : Hello := (rdG l).1
def rdOk (l : List Int) : Bool := (rdG l).2
theorem rdK_cases (vs : List Int) (e : List Ext × Bool) : (∃ h, rdK vs e = (h, true)) ∨ rdK vs e = (⟨[], []⟩, false) := by
 unfold rdK; split
 ·split
  ·exact .inl ⟨_, rfl⟩
  ·exact .inr rfl
 ·exact .inr rfl
theorem rdG_cases (l : List Int) : (∃ h, rdG l = (h, true)) ∨ rdG l = (⟨[], []⟩, false) := by
 match l with
 | [] => exact .inr rfl
 | n :: rest =>
  show (∃ h, (if inOne n rest then _ else _) = _) ∨ (if inOne n rest then _ else _) = _
  split
  ·exact rdK_cases _ _
  ·exact .inr rfl
theorem verLen : ∀ (suf pre : List Int) (m : Int), ((pre.getLast? = none ∧ m = 0) ∨ pre.getLast? = some m) → m ≤ 9 → verGo pre suf = true → (suf.length : Int) + m ≤ 9
 | [], _, m, _, h, _ => by simpa using h
 | x :: suf, pre, m, hm, h, hv => by
  unfold verGo at hv
  simp only [Bool.and_eq_true] at hv
  obtain ⟨⟨h1, h2⟩, h3⟩ := hv
  rw [inR_iff] at h1
  have := verLen suf (pre ++ [x]) x (.inr (by simp)) h1.2 h3
  have hx : m + 1 ≤ x := by
   rcases hm with ⟨_, rfl⟩ | hm
   ·omega
   ·rw [hm] at h2; simp at h2; omega
  simp only [List.length_cons]
  omega
theorem rdG_I (l : List Int) : rdG l = rdI l := by
 match l with
 | [] => rfl
 | n :: rest =>
  show (if inOne n rest then rdK (rest.take n.toNat) (decP (rest.drop n.toNat)) else (⟨[], []⟩, false)) = (if inNine n rest then rdK (rest.take n.toNat) (decQ (rest.drop n.toNat)) else (⟨[], []⟩, false))
  rw [← decP_Q]
  by_cases h9 : inNine n rest = true
  ·have h1 : inOne n rest = true := by unfold inNine at h9; unfold inOne; rw [inR_iff] at h9 ⊢; omega
   rw [if_pos h1, if_pos h9]
  ·rw [if_neg h9]
   split
   ·rename_i h1
    rcases rdK_cases (rest.take n.toNat) (decP (rest.drop n.toNat)) with ⟨h, hk⟩ | hk
    ·exfalso
     apply h9
     unfold rdK at hk
     split at hk
     ·split at hk
      ·rename_i hh
       unfold isHel areVer at hh
       simp only [Bool.and_eq_true] at hh
       have := verLen _ [] 0 (.inl ⟨rfl, rfl⟩) (by omega) hh.1.1
       simp only [List.length_take] at this
       unfold inOne at h1; unfold inNine
       rw [inR_iff] at h1 ⊢
       omega
      ·cases hk
     ·cases hk
    ·exact hk
   ·rfl
theorem cut_head {n : Int} {rest : List Int} {k : Nat} : ((n :: rest).take (1 + k)).drop 1 = rest.take k := by
 rw [show 1 + k = k + 1 by omega]; rfl
theorem cut_tail {n : Int} {rest : List Int} {k : Nat} : ((n :: rest).take (n :: rest).length).drop (1 + k) = rest.drop k := by
 rw [List.take_length, show 1 + k = k + 1 by omega]; rfl
theorem rdK_mid {vs : List Int} {e : List Ext × Bool} (h1 : vs.length ≤ 1048576) (h2 : e.1.length ≤ 1048576 ∧ ∀ y ∈ e.1, y.body.length ≤ 1048576) : (rdK vs e).1.Mid := by
 have h0 : (⟨[], []⟩ : Hello).Mid := ⟨by simp, by simp, by simp⟩
 unfold rdK
 split
 ·split
  ·exact ⟨Nat.le_trans h1 (by decide), Nat.le_trans h2.1 (by decide), fun y hy => Nat.le_trans (h2.2 y hy) (by decide)⟩
  ·exact h0
 ·exact h0
theorem rdV_mid {l : List Int} (hl : l.length ≤ 1048576) : (rdV l).Mid := by
 have h0 : (⟨[], []⟩ : Hello).Mid := ⟨by simp, by simp, by simp⟩
 match l, hl with
 | [], _ => exact h0
 | n :: rest, hl =>
  show (if inOne n rest then rdK (rest.take n.toNat) (decP (rest.drop n.toNat)) else (⟨[], []⟩, false)).1.Mid
  simp only [List.length_cons] at hl
  split
  ·exact rdK_mid (by simp; omega) (decP_mid (by simp; omega))
  ·exact h0
end Go.Vm
