/- What the functions answer. -/
import Derived.Test.YthfbmkhjanmeaaaGCTab
import Derived.Test.YthfbmkhjanmeaaaGCFA
import Derived.Test.YthfbmkhjanmeaaaGCFB
set_option maxHeartbeats 4000000
set_option maxRecDepth 10000
set_option linter.unusedVariables false
set_option linter.unusedSimpArgs false
namespace Go.Vm
def onTag (p : Int → Bool) (e : Ext) : Bool := p e.tag
theorem ok264_0 (g : Nat) (hg : md g = []) (p : Int → Bool) (l : List Ext) (hl : l.length ≤ 1073741824) (w : ∀ y ∈ l, y.body.length ≤ 1099511627776) (hp : ∀ x ∈ l, fix Tb md g [I x.tag] = some ⟨[B (p x.tag)], [], none⟩) {f0 : Fl} (h0 : inFl f0 = true) : fix Tb md 264 [R (row fExt l) f0, ⟨.val, [⟨.fn g [], .sh⟩]⟩] = some ⟨[R (row fExt (sel (onTag p) idE l)) (.ow false)], [], none⟩ := by
 generalize hm_ : md = m_ at hg hp ⊢
 obtain ⟨et, het⟩ := nm (row fExt (sel (onTag p) idE l))
 rw [← het]
 generalize hr : (⟨_, [], none⟩ : Ret) = r
 obtain ⟨ea, hea⟩ := nm (row fExt l)
 rw [← hea]
 refine fix_fn2 (fn := ir264) tb_264 rfl rfl (by decide) rfl ?_; intro Q hQ; simp only [shutArgs, shutS, List.map_cons, List.map_nil, ir264, shut_in h0, List.head?_nil, reduceCtorEq, if_false, sExt, sHello, sAnswer, sEdit, sDeal, sBox, sDialed, sKnown]
 intro add sub mul arith eq ne lt le gt ge neg conv mn mx not beq len at' ln bd cut app allS isNil mks set o hP F ho
 have la := F.len_at hea
 cbv
 refine loop_ind2 hP (σ := List Ext × List Ext × List (List V) × Int × Option (Int × List (List V))) (fun s => match s.2.2.2.2 with | none => [(0, R ea .sh), (1, ⟨.val, [⟨.fn g [], .sh⟩]⟩), (4, R [] .nl), (5, R s.2.2.1 (.ow false)), (9, R ea .sh), (10, I (len ea)), (11, I s.2.2.2.1)] | some j => [(0, R ea .sh), (1, ⟨.val, [⟨.fn g [], .sh⟩]⟩), (4, R [] .nl), (5, R s.2.2.1 (.ow false)), (7, ⟨.ptr 38 0, []⟩), (9, R ea .sh), (10, I (len ea)), (11, I s.2.2.2.1), (38, ⟨.box (), [⟨.int .i64 j.1, .sc⟩, ⟨.row () j.2, .sh⟩]⟩)]) (fun s => At s.2.2.2.1 s.2.1.length ∧ l = s.2.1 ++ s.1 ∧ s.2.2.1 = row fExt (sel (onTag p) idE s.2.1)) (fun s => s.1.length) (l, [], [], 0, none) rfl ⟨rfl, rfl, rfl⟩ ?_
 intro c1 Q1 hc1 hQ1
 rintro ⟨suf, pre, eo, i, j⟩ ⟨hi, hl', hb⟩ ih
 simp only at hi hl' hb ih
 rcases j with _ | ⟨j1, j2⟩
 all_goals
  cbv
  cases suf with
  | nil =>
   rw [F.lt_f hi la (by simp [hl'])]; cbv
   rw [hQ1]; cbv
   rw [hQ]; cbv
   rw [← hr, het, hb, hl', List.append_nil]
  | cons x suf =>
   obtain ⟨ix, hix⟩ := nm (pre.length * 2)
   have hpre : pre.length ≤ 1073741824 := by rw [hl'] at hl; simp at hl; omega
   have hs : (sel (onTag p) idE pre).length ≤ pre.length := sel_len
   have hi' : At (add .i64 i 1) (pre ++ [x]).length := at_len (F.inc hi (by omega)) (by simp)
   have hl2 : l = (pre ++ [x]) ++ suf := by rw [hl']; simp
   have hmem : x ∈ l := by rw [hl']; simp
   obtain ⟨e1, he1⟩ := nm (row fI x.body)
   have hx := w x hmem
   have p0 : at' 2 ea i = some (ix, [.int .i64 x.tag, .row () e1]) := by rw [hix, he1]; exact F.get hi hea hl' (fun _ => rfl) (by decide)
   obtain ⟨v, hv⟩ := nm (onTag p x)
   have c2 : o g [I x.tag] = some ⟨[B v], [], none⟩ := by rw [ho, hv]; exact hp x hmem
   rw [F.lt_t hi la (by simp [hl'])]; cbv
   rw [p0]; cbv
   rw [hg]; cbv
   rw [c2]; cbv
   refine both (fun d => ?_) (fun d => ?_) <;> rw [d] <;> cbv
   ·rw [show allS e1 = true from F.scal he1 (fun _ => rfl)]; cbv
    rw [F.app_nil he1 (fun _ => rfl) hx]; cbv
    rw [show allS [[.int .i64 x.tag, .row () e1]] = false by rw [F.allS]; rfl]; cbv
    obtain ⟨eo', heo'⟩ := nm (row fExt (sel (onTag p) idE pre ++ [idE x]))
    rw [show app 2 eo [[.int .i64 x.tag, .row () e1]] = some eo' by rw [heo', he1]; exact F.push hb (fun _ => rfl) rfl (by omega)]; cbv
    refine ih (suf, pre ++ [x], eo', add .i64 i 1, some (x.tag, e1)) ⟨hi', hl2, by simp only; rw [heo', sel_t (by rw [← hv, d])]⟩ (by simp)
   ·refine ih (suf, pre ++ [x], eo, add .i64 i 1, some (x.tag, e1)) ⟨hi', hl2, by simp only; rw [hb, sel_f (by rw [← hv, d])]⟩ (by simp)
theorem ok264_1 (g : Nat) (hg : md g = []) (k0 : V) (p : Int → Bool) (l : List Ext) (hl : l.length ≤ 1073741824) (w : ∀ y ∈ l, y.body.length ≤ 1099511627776) (hp : ∀ x ∈ l, fix Tb md g [I x.tag, ⟨.val, [⟨k0, .sh⟩]⟩] = some ⟨[B (p x.tag)], [], none⟩) {f0 : Fl} (h0 : inFl f0 = true) : fix Tb md 264 [R (row fExt l) f0, ⟨.val, [⟨.fn g [k0], .sh⟩]⟩] = some ⟨[R (row fExt (sel (onTag p) idE l)) (.ow false)], [], none⟩ := by
 generalize hm_ : md = m_ at hg hp ⊢
 obtain ⟨et, het⟩ := nm (row fExt (sel (onTag p) idE l))
 rw [← het]
 generalize hr : (⟨_, [], none⟩ : Ret) = r
 obtain ⟨ea, hea⟩ := nm (row fExt l)
 rw [← hea]
 refine fix_fn2 (fn := ir264) tb_264 rfl rfl (by decide) rfl ?_; intro Q hQ; simp only [shutArgs, shutS, List.map_cons, List.map_nil, ir264, shut_in h0, List.head?_nil, reduceCtorEq, if_false, sExt, sHello, sAnswer, sEdit, sDeal, sBox, sDialed, sKnown]
 intro add sub mul arith eq ne lt le gt ge neg conv mn mx not beq len at' ln bd cut app allS isNil mks set o hP F ho
 have la := F.len_at hea
 cbv
 refine loop_ind2 hP (σ := List Ext × List Ext × List (List V) × Int × Option (Int × List (List V))) (fun s => match s.2.2.2.2 with | none => [(0, R ea .sh), (1, ⟨.val, [⟨.fn g [k0], .sh⟩]⟩), (4, R [] .nl), (5, R s.2.2.1 (.ow false)), (9, R ea .sh), (10, I (len ea)), (11, I s.2.2.2.1)] | some j => [(0, R ea .sh), (1, ⟨.val, [⟨.fn g [k0], .sh⟩]⟩), (4, R [] .nl), (5, R s.2.2.1 (.ow false)), (7, ⟨.ptr 38 0, []⟩), (9, R ea .sh), (10, I (len ea)), (11, I s.2.2.2.1), (38, ⟨.box (), [⟨.int .i64 j.1, .sc⟩, ⟨.row () j.2, .sh⟩]⟩)]) (fun s => At s.2.2.2.1 s.2.1.length ∧ l = s.2.1 ++ s.1 ∧ s.2.2.1 = row fExt (sel (onTag p) idE s.2.1)) (fun s => s.1.length) (l, [], [], 0, none) rfl ⟨rfl, rfl, rfl⟩ ?_
 intro c1 Q1 hc1 hQ1
 rintro ⟨suf, pre, eo, i, j⟩ ⟨hi, hl', hb⟩ ih
 simp only at hi hl' hb ih
 rcases j with _ | ⟨j1, j2⟩
 all_goals
  cbv
  cases suf with
  | nil =>
   rw [F.lt_f hi la (by simp [hl'])]; cbv
   rw [hQ1]; cbv
   rw [hQ]; cbv
   rw [← hr, het, hb, hl', List.append_nil]
  | cons x suf =>
   obtain ⟨ix, hix⟩ := nm (pre.length * 2)
   have hpre : pre.length ≤ 1073741824 := by rw [hl'] at hl; simp at hl; omega
   have hs : (sel (onTag p) idE pre).length ≤ pre.length := sel_len
   have hi' : At (add .i64 i 1) (pre ++ [x]).length := at_len (F.inc hi (by omega)) (by simp)
   have hl2 : l = (pre ++ [x]) ++ suf := by rw [hl']; simp
   have hmem : x ∈ l := by rw [hl']; simp
   obtain ⟨e1, he1⟩ := nm (row fI x.body)
   have hx := w x hmem
   have p0 : at' 2 ea i = some (ix, [.int .i64 x.tag, .row () e1]) := by rw [hix, he1]; exact F.get hi hea hl' (fun _ => rfl) (by decide)
   obtain ⟨v, hv⟩ := nm (onTag p x)
   have c2 : o g [I x.tag, ⟨.val, [⟨k0, .sh⟩]⟩] = some ⟨[B v], [], none⟩ := by rw [ho, hv]; exact hp x hmem
   rw [F.lt_t hi la (by simp [hl'])]; cbv
   rw [p0]; cbv
   rw [hg]; cbv
   rw [c2]; cbv
   refine both (fun d => ?_) (fun d => ?_) <;> rw [d] <;> cbv
   ·rw [show allS e1 = true from F.scal he1 (fun _ => rfl)]; cbv
    rw [F.app_nil he1 (fun _ => rfl) hx]; cbv
    rw [show allS [[.int .i64 x.tag, .row () e1]] = false by rw [F.allS]; rfl]; cbv
    obtain ⟨eo', heo'⟩ := nm (row fExt (sel (onTag p) idE pre ++ [idE x]))
    rw [show app 2 eo [[.int .i64 x.tag, .row () e1]] = some eo' by rw [heo', he1]; exact F.push hb (fun _ => rfl) rfl (by omega)]; cbv
    refine ih (suf, pre ++ [x], eo', add .i64 i 1, some (x.tag, e1)) ⟨hi', hl2, by simp only; rw [heo', sel_t (by rw [← hv, d])]⟩ (by simp)
   ·refine ih (suf, pre ++ [x], eo, add .i64 i 1, some (x.tag, e1)) ⟨hi', hl2, by simp only; rw [hb, sel_f (by rw [← hv, d])]⟩ (by simp)
theorem ok299 (l : List Int) (hl : l.length ≤ 1099511627776) {f0 : Fl} (h0 : inFl f0 = true) : fix Tb md 299 [R (row fI l) f0] = some ⟨[R (row fI l) (.ow false)], [], none⟩ := by
 refine fix_special tb_299 (by decide) ?_
 show special 1 _ = _
 have h1 : (row fI l).all (fun e => e.all scal && e.length = 1) = true := by
  rw [List.all_eq_true]; intro e he
  obtain ⟨x, _, rfl⟩ := List.mem_map.1 he
  rfl
 have h2 : (row fI l).length ≤ lim := by unfold row; simpa [lim] using hl
 have h3 : inF0 f0 = true := by cases f0 <;> first | rfl | cases h0
 show special 1 [⟨.val, [⟨.row () (row fI l), f0⟩]⟩] = _
 simp only [special, h1, h3, decide_eq_true h2, Bool.and_self, if_true]
def lastI (l : List Int) : Int := (l.getLast?).getD 0
def stripE (b : List Int) (e : Ext) : Bool := !hasI b e.tag
def lost (b : Box) (e : Ext) : Bool := hasI b.drops e.tag || (b.lists && !hasI b.strips e.tag && !inR e.tag 1 3)
def overL (b : Box) (h : Hello) : Bool := decide (0 < b.limit) && decide (b.limit < lastI h.versions)
def pbOk (b : Box) (h : Hello) : Bool := isBox b.limit b.drops b.strips && isHel h && !overL b h && !h.exts.any (lost b)
def pbV (b : Box) (h : Hello) : Hello := if pbOk b h then ⟨h.versions, sel (stripE b.strips) idE h.exts⟩ else ⟨[], []⟩
theorem pbV_mid {b : Box} {h : Hello} (m : h.Mid) : (pbV b h).Mid := by
 unfold pbV
 split
 ·unfold Hello.Mid at *
  exact ⟨m.1, Nat.le_trans sel_len m.2.1, fun y hy => m.2.2 y (by simp only [sel_idE] at hy; exact (List.mem_filter.1 hy).1)⟩
 ·exact ⟨by simp, by simp, by simp⟩
theorem isHel_ne {h : Hello} (hh : isHel h = true) : ∃ p y, h.versions = p ++ [y] ∧ lastI h.versions = y := by
 unfold isHel areVer at hh
 simp only [Bool.and_eq_true, decide_eq_true_eq] at hh
 rcases List.eq_nil_or_concat h.versions with h0 | ⟨p, y, h0⟩
 ·rw [h0] at hh; simp at hh
 ·rw [List.concat_eq_append] at h0; exact ⟨p, y, h0, by rw [h0]; simp [lastI]⟩
def maxGo (m : Int) : List Int → Int
 | [] => m
 | x :: xs => maxGo (if x > m then x else m) xs
theorem max_last : ∀ (xs pre : List Int) (m : Int), verGo (pre ++ [m]) xs = true → maxGo m xs = lastI (m :: xs)
 | [], _, m, _ => rfl
 | x :: xs, pre, m, h => by
  unfold verGo at h
  simp only [Bool.and_eq_true] at h
  obtain ⟨⟨_, h2⟩, h3⟩ := h
  have hx : x > m := by simp at h2; omega
  show maxGo (if x > m then x else m) xs = _
  rw [if_pos hx, max_last xs (pre ++ [m]) x h3]
  show _ = lastI (m :: x :: xs)
  simp [lastI]
theorem max_hel {x : Int} {xs : List Int} (h : areVer (x :: xs) = true) : maxGo x xs = lastI (x :: xs) := by
 unfold areVer at h
 simp only [Bool.and_eq_true] at h
 have h1 := h.1
 unfold verGo at h1
 simp only [Bool.and_eq_true] at h1
 exact max_last xs [] x h1.2
theorem ok358 (x : Int) (xs : List Int) (hl : (x :: xs).length ≤ 1099511627776) {f0 : Fl} (h0 : inFl f0 = true) : fix Tb md 358 [R (row fI (x :: xs)) f0] = some ⟨[I (maxGo x xs)], [], none⟩ := by
 obtain ⟨T, hT⟩ := nm (maxGo x xs)
 rw [← hT]
 generalize hr : (⟨_, [], none⟩ : Ret) = r
 obtain ⟨l, hl0⟩ := nm (x :: xs)
 rw [← hl0] at hl ⊢
 obtain ⟨ea, hea⟩ := nm (row fI l)
 rw [← hea]
 refine fix_fn2 (fn := ir358) tb_358 rfl rfl (by decide) rfl ?_; intro Q hQ; simp only [shutArgs, shutS, List.map_cons, List.map_nil, ir358, shut_in h0, List.head?_nil, reduceCtorEq, if_false, sExt, sHello, sAnswer, sEdit, sDeal, sBox, sDialed, sKnown]
 intro add sub mul arith eq ne lt le gt ge neg conv mn mx not beq len at' ln bd cut app allS isNil mks set o hP F ho
 have la := F.len_at hea
 have g0 : lt (len ea) 1 = false := by rw [F.lt_n la (k := 1) (m := 1) rfl, hl0]; simp
 obtain ⟨ix0, hix0⟩ := nm (([] : List Int).length * 1)
 have p00 : at' 1 ea 0 = some (ix0, [.int .i64 x]) := by rw [hix0]; exact F.get (pre := []) (i := 0) (show At 0 0 from rfl) hea hl0 (fun _ => rfl) (by decide)
 cbv
 rw [g0]; cbv
 rw [p00]; cbv
 refine loop_ind2 hP (σ := List Int × List Int × Int × Int) (fun s => [(0, R ea .sh), (2, I 0), (3, I s.2.2.1), (4, I s.2.2.2)]) (fun s => At s.2.2.2 s.2.1.length ∧ l = s.2.1 ++ s.1 ∧ maxGo s.2.2.1 s.1 = T) (fun s => s.1.length) (xs, [x], x, 1) rfl ⟨rfl, hl0, hT.symm⟩ ?_
 intro c1 Q1 hc1 hQ1
 rintro ⟨suf, pre, m, i⟩ ⟨hi, hl', hb⟩ ih
 simp only at hi hl' hb ih
 cbv
 cases suf with
 | nil =>
  rw [F.lt_f hi la (by simp [hl'])]; cbv
  rw [hQ1]; cbv
  rw [hQ]; cbv
  rw [← hr, ← hb]; rfl
 | cons y suf =>
  obtain ⟨ix, hix⟩ := nm (pre.length * 1)
  have p0 : at' 1 ea i = some (ix, [.int .i64 y]) := by rw [hix]; exact F.get hi hea hl' (fun _ => rfl) (by decide)
  rw [F.lt_t hi la (by simp [hl'])]; cbv
  rw [p0]; cbv
  refine ih (suf, pre ++ [y], mx m y, add .i64 i 1) ⟨at_len (F.inc hi (by simp [hl'] at hl; omega)) (by simp), by simp [hl'], ?_⟩ (by simp)
  simp only
  rw [F.mx]; exact hb
theorem ok359 (x : Ext) (b : Box) (hd : b.drops.length ≤ 1099511627776) (hs : b.strips.length ≤ 1099511627776) {f0 : Fl} (h0 : inFl f0 = true) : fix Tb md 359 [sExt x.tag (row fI x.body) f0, ⟨.val, [⟨.ptr () [.int .i64 b.limit, .row () (row fI b.drops), .row () (row fI b.strips), .bool b.lists], .sh⟩]⟩] = some ⟨[B (lost b x)], [], none⟩ := by
 obtain ⟨d, hd_⟩ := nm (hasI b.drops x.tag)
 obtain ⟨s, hs_⟩ := nm (hasI b.strips x.tag)
 obtain ⟨q, hq⟩ := nm (inR x.tag 1 3)
 obtain ⟨lb, hlb⟩ := nm (b.lists)
 rw [show lost b x = (d || (lb && !s && !q)) by rw [hd_, hs_, hq, hlb]; rfl, ← hlb]
 generalize hr : (⟨_, [], none⟩ : Ret) = r
 obtain ⟨ex, hex⟩ := nm (row fI x.body)
 obtain ⟨ed, hed⟩ := nm (row fI b.drops)
 obtain ⟨es, hes⟩ := nm (row fI b.strips)
 rw [← hex, ← hed, ← hes]
 refine fix_fn2 (fn := ir359) tb_359 rfl rfl (by decide) rfl ?_; intro Q hQ; simp only [shutArgs, shutS, List.map_cons, List.map_nil, ir359, shut_in h0, List.head?_nil, reduceCtorEq, if_false, sExt, sHello, sAnswer, sEdit, sDeal, sBox, sDialed, sKnown]
 intro add sub mul arith eq ne lt le gt ge neg conv mn mx not beq len at' ln bd cut app allS isNil mks set o hP F ho
 have c1 : o 302 [R ed (.sp 0 0), I x.tag] = some ⟨[B d], [], none⟩ := by rw [ho, hd_, hed]; exact ok302 _ _ hd rfl
 have c2 : o 302 [R es (.sp 0 0), I x.tag] = some ⟨[B s], [], none⟩ := by rw [ho, hs_, hes]; exact ok302 _ _ hs rfl
 have c3 : o 232 [I x.tag, I 1, I 3] = some ⟨[B q], [], none⟩ := by rw [ho, hq]; exact ok232 ..
 have nb : ∀ b, not b = !b := F.not
 cbv
 rw [c1]; cbv
 refine both (fun e1 => ?_) (fun e1 => ?_) <;> rw [e1] <;> cbv
 ·rw [hQ]; cbv
  rw [← hr, e1]; rfl
 refine both (fun e2 => ?_) (fun e2 => ?_) <;> rw [e2] <;> cbv
 ·rw [c2]; cbv
  refine both (fun e3 => ?_) (fun e3 => ?_) <;> rw [e3] <;> cbv
  ·rw [c3]; cbv
   rw [hQ]; cbv
   rw [← hr, nb q, e1, e2, F.not_t e3]; rfl
  ·rw [hQ]; cbv
   rw [← hr, e1, e2, F.not_f e3]; rfl
 ·rw [hQ]; cbv
  rw [← hr, e1, e2]; rfl
theorem ok310 (b : Box) (h : Hello) (hb : 0 ≤ b.limit) (hh : areVer h.versions = true) (hd : b.drops.length ≤ 1099511627776) (hs : b.strips.length ≤ 1099511627776) (hv : h.versions.length ≤ 1099511627776) (hx : h.exts.length ≤ 1099511627776) {f0 f1 f2 f3 : Fl} (q0 : inFl f0 = true) (q1 : inFl f1 = true) (q2 : inFl f2 = true) (q3 : inFl f3 = true) : fix Tb md 310 [sBox b.limit (row fI b.drops) (row fI b.strips) b.lists f0 f1, sHello (row fI h.versions) (row fExt h.exts) f2 f3] = some ⟨[B (overL b h || h.exts.any (lost b))], [], none⟩ := by
 obtain ⟨T, hT⟩ := nm (h.exts.any (lost b))
 obtain ⟨w, hw⟩ := nm (lastI h.versions)
 obtain ⟨t1, ht1⟩ := nm (decide (0 < b.limit))
 obtain ⟨t2, ht2⟩ := nm (decide (b.limit < w))
 rw [show (overL b h || h.exts.any (lost b)) = (t1 && t2 || T) by rw [ht1, ht2, hw, hT]; rfl]
 generalize hr : (⟨_, [], none⟩ : Ret) = r
 obtain ⟨ed, hed⟩ := nm (row fI b.drops)
 obtain ⟨es, hes⟩ := nm (row fI b.strips)
 obtain ⟨ev, hev⟩ := nm (row fI h.versions)
 obtain ⟨ex, hex⟩ := nm (row fExt h.exts)
 have k1 : fix Tb md 358 [R ev (.sp 0 0)] = some ⟨[I w], [], none⟩ := by
  rw [hev, hw]
  cases hvs : h.versions with
  | nil => rw [hvs] at hh; exact absurd hh (by decide)
  | cons x xs => rw [hvs] at hh hv; rw [← max_hel hh]; exact ok358 x xs hv rfl
 rw [← hed, ← hes, ← hev, ← hex]
 refine fix_fn2 (fn := ir310) tb_310 rfl rfl (by decide) rfl ?_; intro Q hQ; simp only [shutArgs, shutS, List.map_cons, List.map_nil, ir310, shut_in q0, shut_in q1, shut_in q2, shut_in q3, List.head?_nil, reduceCtorEq, if_false, sExt, sHello, sAnswer, sEdit, sDeal, sBox, sDialed, sKnown]
 intro add sub mul arith eq ne lt le gt ge neg conv mn mx not beq len at' ln bd cut app allS isNil mks set o hP F ho
 have c1 : o 358 [R ev (.sp 0 0)] = some ⟨[I w], [], none⟩ := by rw [ho]; exact k1
 have c2 : o 288 [R ex (.sp 0 0), ⟨.val, [⟨.fn 359 [.ptr () [.int .i64 b.limit, .row () ed, .row () es, .bool b.lists]], .sh⟩]⟩] = some ⟨[B T], [], none⟩ := by
  rw [ho, hT, hex, hed, hes]; exact ok288_1 359 rfl _ (lost b) h.exts hx (fun y _ => ok359 y b hd hs rfl) rfl
 have g1 : ne b.limit 0 = t1 := by
  rw [F.ne, ht1]; by_cases hz : b.limit = 0
  ·simp [hz]
  ·simp [hz]; omega
 have g2 : gt w b.limit = t2 := by rw [F.gt, ht2]
 cbv
 rw [g1]; cbv
 refine both (fun d1 => ?_) (fun d1 => ?_) <;> rw [d1] <;> cbv
 ·rw [c1]; cbv
  rw [g2]; cbv
  refine both (fun d2 => ?_) (fun d2 => ?_) <;> rw [d2] <;> cbv
  ·rw [hQ]; cbv
   rw [← hr, d1, d2]; rfl
  ·rw [c2]; cbv
   rw [hQ]; cbv
   rw [← hr, d1, d2]; rfl
 ·rw [c2]; cbv
  rw [hQ]; cbv
  rw [← hr, d1]; rfl
theorem ok311 (n : Int) (b : Box) (hs : b.strips.length ≤ 1099511627776) : fix Tb md 311 [I n, ⟨.val, [⟨.ptr () [.int .i64 b.limit, .row () (row fI b.drops), .row () (row fI b.strips), .bool b.lists], .sh⟩]⟩] = some ⟨[B (!hasI b.strips n)], [], none⟩ := by
 obtain ⟨v, hv⟩ := nm (hasI b.strips n)
 rw [← hv]
 generalize hr : (⟨_, [], none⟩ : Ret) = r
 obtain ⟨ed, hed⟩ := nm (row fI b.drops)
 obtain ⟨es, hes⟩ := nm (row fI b.strips)
 rw [← hed, ← hes]
 refine fix_fn2 (fn := ir311) tb_311 rfl rfl (by decide) rfl ?_; intro Q hQ; simp only [shutArgs, shutS, List.map_cons, List.map_nil, ir311, List.head?_nil, reduceCtorEq, if_false, sExt, sHello, sAnswer, sEdit, sDeal, sBox, sDialed, sKnown]
 intro add sub mul arith eq ne lt le gt ge neg conv mn mx not beq len at' ln bd cut app allS isNil mks set o hP F ho
 have c1 : o 302 [R es (.sp 0 0), I n] = some ⟨[B v], [], none⟩ := by rw [ho, hv, hes]; exact ok302 _ _ hs rfl
 cbv
 rw [c1]; cbv
 rw [hQ]; cbv
 rw [← hr, F.not]
theorem ok69 (limit : Int) (drops strips : List Int) (lists : Bool) (hd : drops.length ≤ 1099511627776) (hs : strips.length ≤ 1099511627776) {f0 f1 : Fl} (h0 : inFl f0 = true) (h1 : inFl f1 = true) :
  fix Tb md 69 [sBox limit (row fI drops) (row fI strips) lists f0 f1] = some ⟨[B (isBox limit drops strips)], [], none⟩ := by
 refine fix_fn (fn := ir69) tb_69 rfl rfl (by decide) rfl ?_; simp only [shutArgs, shutS, List.map_cons, List.map_nil, ir69, shut_in h0, shut_in h1, List.head?_nil, reduceCtorEq, if_false, sExt, sHello, sAnswer, sEdit, sDeal, sBox, sDialed, sKnown]
 generalize hr : (⟨_, [], none⟩ : Ret) = r
 obtain ⟨ed, hed⟩ := nm (row fI drops)
 obtain ⟨es, hes⟩ := nm (row fI strips)
 rw [← hed, ← hes]
 obtain ⟨v1, hv1⟩ := nm (inR limit 0 9)
 obtain ⟨v2, hv2⟩ := nm (bytes drops)
 obtain ⟨v3, hv3⟩ := nm (bytes strips)
 intro add sub mul arith eq ne lt le gt ge neg conv mn mx not beq len at' ln bd cut app allS isNil mks set o hP F ho
 have ld := F.len_at hed
 have ls := F.len_at hes
 have c1 : o 232 [I limit, I 0, I 9] = some ⟨[B v1], [], none⟩ := by rw [ho, hv1]; exact ok232 ..
 have c2 : o 233 [R ed (.sp 0 0), I 0, I 255] = some ⟨[B v2], [], none⟩ := by rw [ho, hv2, hed]; exact ok233 _ _ _ hd rfl
 have c3 : o 233 [R es (.sp 0 0), I 0, I 255] = some ⟨[B v3], [], none⟩ := by rw [ho, hv3, hes]; exact ok233 _ _ _ hs rfl
 cbv
 repeat' (first | (rw [c1]; cbv) | (rw [c2]; cbv) | (rw [c3]; cbv) | (refine both (fun c => ?_) (fun c => ?_) <;> (try rw [c]) <;> (try cbv)))
 all_goals (clear hP c1 c2 c3 ho; unfold At at ld ls; try simp only [F.eq, F.ne, F.le, F.lt, F.ge, F.gt, F.not, F.beq, ld, ls] at *; clear F; subst hr)
 all_goals (simp_all [isBox] <;> (intros; omega))
theorem ok174r (b : Box) (h : Hello) (bd1 : b.drops.length ≤ 1073741824) (bs1 : b.strips.length ≤ 1073741824) (mh : h.Mid) {f0 f1 f2 f3 : Fl} (q0 : inFl f0 = true) (q1 : inFl f1 = true) (q2 : inFl f2 = true) (q3 : inFl f3 = true) (r : Ret) (rA : pbOk b h = true → (⟨[sHello (row fI h.versions) (row fExt (sel (stripE b.strips) idE h.exts)) (.ow false) (.ow false), B true], [], none⟩ : Ret) = r) (rC : pbOk b h = false → (⟨[sHello [] [] .nl .nl, B false], [], none⟩ : Ret) = r) : fix Tb md 174 [sBox b.limit (row fI b.drops) (row fI b.strips) b.lists f0 f1, sHello (row fI h.versions) (row fExt h.exts) f2 f3] = some r := by
 have mh' := mh
 unfold Hello.Mid at mh'
 have wh : ∀ y ∈ h.exts, y.body.length ≤ 1099511627776 := fun y hy => Nat.le_trans (show y.body.length ≤ 1073741824 from mh'.2.2 y hy) (by decide)
 obtain ⟨u1, hu1⟩ := nm (isBox b.limit b.drops b.strips)
 obtain ⟨u2, hu2⟩ := nm (isHel h)
 obtain ⟨u3, hu3⟩ := nm ((overL b h || h.exts.any (lost b)))
 have hp : pbOk b h = (u1 && u2 && !u3) := by rw [hu1, hu2, hu3, pbOk]; simp [Bool.and_assoc]
 rw [hp] at rA rC
 have k3 : u1 = true → u2 = true → fix Tb md 310 [sBox b.limit (row fI b.drops) (row fI b.strips) b.lists (.sp 0 1) (.sp 0 2), sHello (row fI h.versions) (row fExt h.exts) (.sp 1 0) (.sp 1 1)] = some ⟨[B u3], [], none⟩ := fun e1 e2 => by
  rw [hu3]
  rw [hu1] at e1; rw [hu2] at e2
  refine ok310 b h ?_ ?_ (by omega) (by omega) (by omega) (by omega) rfl rfl rfl rfl
  ·unfold isBox at e1; simp only [Bool.and_eq_true] at e1
   have := e1.1.1.1.1; unfold inR at this; simp at this; exact this.1
  ·unfold isHel at e2; simp only [Bool.and_eq_true] at e2; exact e2.1
 obtain ⟨ed, hed⟩ := nm (row fI b.drops)
 obtain ⟨es, hes⟩ := nm (row fI b.strips)
 obtain ⟨ev, hev⟩ := nm (row fI h.versions)
 obtain ⟨ex, hex⟩ := nm (row fExt h.exts)
 obtain ⟨ez, hez⟩ := nm (row fExt (sel (stripE b.strips) idE h.exts))
 rw [← hev, ← hez] at rA
 rw [← hed, ← hes, ← hev, ← hex] at k3 ⊢
 refine fix_fn2 (fn := ir174) tb_174 rfl rfl (by decide) rfl ?_; intro Q hQ; simp only [shutArgs, shutS, List.map_cons, List.map_nil, ir174, shut_in q0, shut_in q1, shut_in q2, shut_in q3, List.head?_nil, reduceCtorEq, if_false, sExt, sHello, sAnswer, sEdit, sDeal, sBox, sDialed, sKnown]
 intro add sub mul arith eq ne lt le gt ge neg conv mn mx not beq len at' ln bd cut app allS isNil mks set o hP F ho
 have c1 : o 69 [sBox b.limit ed es b.lists (.sp 0 1) (.sp 0 2)] = some ⟨[B u1], [], none⟩ := by rw [ho, hu1, hed, hes]; exact ok69 _ _ _ _ (by omega) (by omega) rfl rfl
 have c2 : o 113 [sHello ev ex (.sp 0 0) (.sp 0 1)] = some ⟨[B u2], [], none⟩ := by rw [ho, hu2, hev, hex]; exact ok113 _ (by omega) (by omega) wh rfl rfl
 have c3 : u1 = true → u2 = true → o 310 [sBox b.limit ed es b.lists (.sp 0 1) (.sp 0 2), sHello ev ex (.sp 1 0) (.sp 1 1)] = some ⟨[B u3], [], none⟩ := by rw [ho]; exact k3
 have c4 : o 299 [R ev (.sp 0 0)] = some ⟨[R ev (.ow false)], [], none⟩ := by rw [ho, hev]; exact ok299 _ (by omega) rfl
 have c5 : o 264 [R ex (.sp 0 0), ⟨.val, [⟨.fn 311 [.ptr () [.int .i64 b.limit, .row () ed, .row () es, .bool b.lists]], .sh⟩]⟩] = some ⟨[R ez (.ow false)], [], none⟩ := by
  rw [ho, hez, hex, hed, hes]
  exact ok264_1 311 rfl _ (fun n => !hasI b.strips n) h.exts mh'.2.1 wh (fun x _ => ok311 x.tag b (by omega)) rfl
 cbv
 rw [c1]; cbv
 refine both (fun d1 => ?_) (fun d1 => ?_) <;> rw [d1] <;> cbv
 ·rw [hQ]; cbv
  exact congrArg some (rC (by rw [F.not_t d1]; rfl))
 rw [c2]; cbv
 refine both (fun d2 => ?_) (fun d2 => ?_) <;> rw [d2] <;> cbv
 ·rw [hQ]; cbv
  exact congrArg some (rC (by rw [F.not_f d1, F.not_t d2]; rfl))
 have c3' := c3 (F.not_f d1) (F.not_f d2)
 rw [c3']; cbv
 refine both (fun d3 => ?_) (fun d3 => ?_) <;> rw [d3] <;> cbv
 ·rw [hQ]; cbv
  exact congrArg some (rC (by rw [F.not_f d1, F.not_f d2, d3]; rfl))
 rw [c4]; cbv
 rw [c5]; cbv
 rw [hQ]; cbv
 exact congrArg some (rA (by rw [F.not_f d1, F.not_f d2, d3]; rfl))
theorem ok174 (b : Box) (h : Hello) (bd1 : b.drops.length ≤ 1073741824) (bs1 : b.strips.length ≤ 1073741824) (mh : h.Mid) {f0 f1 f2 f3 : Fl} (q0 : inFl f0 = true) (q1 : inFl f1 = true) (q2 : inFl f2 = true) (q3 : inFl f3 = true) :
  fix Tb md 174 [sBox b.limit (row fI b.drops) (row fI b.strips) b.lists f0 f1, sHello (row fI h.versions) (row fExt h.exts) f2 f3] = some ⟨[sHello (row fI (pbV b h).versions) (row fExt (pbV b h).exts) (.ow false) (.ow false), B (pbOk b h)], [], none⟩ ∨
  ((pbV b h).versions = [] ∧ (pbV b h).exts = [] ∧ fix Tb md 174 [sBox b.limit (row fI b.drops) (row fI b.strips) b.lists f0 f1, sHello (row fI h.versions) (row fExt h.exts) f2 f3] = some ⟨[sHello [] [] .nl .nl, B (pbOk b h)], [], none⟩) := by
 have hmain := fun r a c => ok174r b h bd1 bs1 mh q0 q1 q2 q3 r a c
 unfold pbV
 cases ho : pbOk b h with
 | false => exact .inr ⟨rfl, rfl, hmain _ (fun q => by rw [ho] at q; cases q) (fun _ => rfl)⟩
 | true => exact .inl (hmain _ (fun _ => rfl) (fun q => by rw [ho] at q; cases q))
theorem ok347 (n : Int) : fix Tb md 347 [I n] = some ⟨[B true], [], none⟩ := by
 generalize hr : (⟨_, [], none⟩ : Ret) = r
 refine fix_fn2 (fn := ir347) tb_347 rfl rfl (by decide) rfl ?_; intro Q hQ; simp only [shutArgs, shutS, List.map_cons, List.map_nil, ir347, List.head?_nil, reduceCtorEq, if_false, sExt, sHello, sAnswer, sEdit, sDeal, sBox, sDialed, sKnown]
 intro add sub mul arith eq ne lt le gt ge neg conv mn mx not beq len at' ln bd cut app allS isNil mks set o hP F ho
 cbv
 rw [hQ]; cbv
 exact congrArg some hr
theorem ok266 (l : List Ext) (hl : l.length ≤ 1073741824) (w : ∀ y ∈ l, y.body.length ≤ 1099511627776) {f0 : Fl} (h0 : inFl f0 = true) : fix Tb md 266 [R (row fExt l) f0] = some ⟨[R (row fExt l) (.ow false)], [], none⟩ := by
 obtain ⟨ea, hea⟩ := nm (row fExt l)
 rw [← hea]
 generalize hr : (⟨_, [], none⟩ : Ret) = r
 refine fix_fn2 (fn := ir266) tb_266 rfl rfl (by decide) rfl ?_; intro Q hQ; simp only [shutArgs, shutS, List.map_cons, List.map_nil, ir266, shut_in h0, List.head?_nil, reduceCtorEq, if_false, sExt, sHello, sAnswer, sEdit, sDeal, sBox, sDialed, sKnown]
 intro add sub mul arith eq ne lt le gt ge neg conv mn mx not beq len at' ln bd cut app allS isNil mks set o hP F ho
 have c1 : o 264 [R ea (.sp 0 0), ⟨.val, [⟨.fn 347 [], .sh⟩]⟩] = some ⟨[R ea (.ow false)], [], none⟩ := by
  rw [ho, hea]
  have h := ok264_0 347 rfl (fun _ => true) l hl w (fun x _ => ok347 x.tag) (f0 := .sp 0 0) rfl
  rw [show sel (onTag fun _ => true) idE l = l by rw [sel_idE]; exact List.filter_eq_self.2 (fun _ _ => rfl)] at h
  exact h
 cbv
 rw [c1]; cbv
 rw [hQ]; cbv
 exact congrArg some hr
theorem ok261 (h : Hello) (mh : h.Mid) {f0 f1 : Fl} (q0 : inFl f0 = true) (q1 : inFl f1 = true) : fix Tb md 261 [sHello (row fI h.versions) (row fExt h.exts) f0 f1] = some ⟨[sHello (row fI h.versions) (row fExt h.exts) (.ow false) (.ow false)], [], none⟩ := by
 have mh' := mh
 unfold Hello.Mid at mh'
 obtain ⟨ev, hev⟩ := nm (row fI h.versions)
 obtain ⟨ex, hex⟩ := nm (row fExt h.exts)
 rw [← hev, ← hex]
 generalize hr : (⟨_, [], none⟩ : Ret) = r
 refine fix_fn2 (fn := ir261) tb_261 rfl rfl (by decide) rfl ?_; intro Q hQ; simp only [shutArgs, shutS, List.map_cons, List.map_nil, ir261, shut_in q0, shut_in q1, List.head?_nil, reduceCtorEq, if_false, sExt, sHello, sAnswer, sEdit, sDeal, sBox, sDialed, sKnown]
 intro add sub mul arith eq ne lt le gt ge neg conv mn mx not beq len at' ln bd cut app allS isNil mks set o hP F ho
 have c1 : o 266 [R ex (.sp 0 0)] = some ⟨[R ex (.ow false)], [], none⟩ := by rw [ho, hex]; exact ok266 _ mh'.2.1 (fun y hy => Nat.le_trans (show y.body.length ≤ 1073741824 from mh'.2.2 y hy) (by decide)) rfl
 cbv
 rw [show allS ev = true from F.scal hev (fun _ => rfl)]; cbv
 rw [F.app_nil hev (fun _ => rfl) (Nat.le_trans mh'.1 (by decide))]; cbv
 rw [c1]; cbv
 rw [hQ]; cbv
 exact congrArg some hr
def ppGo : List Box → Hello → Hello × Bool
 | [], h => (h, true)
 | b :: bs, h => if pbOk b h then ppGo bs (pbV b h) else (⟨[], []⟩, false)
def pp (path : List Box) (h : Hello) : Hello × Bool := if isHel h && decide (path.length ≤ 4) then ppGo path h else (⟨[], []⟩, false)
def ppV (path : List Box) (h : Hello) : Hello := (pp path h).1
def ppOk (path : List Box) (h : Hello) : Bool := (pp path h).2
theorem ppGo_mid : ∀ (path : List Box) {h : Hello}, h.Mid → (ppGo path h).1.Mid
 | [], _, m => m
 | b :: bs, h, m => by
  unfold ppGo
  split
  ·exact ppGo_mid bs (pbV_mid m)
  ·exact ⟨by simp, by simp, by simp⟩
theorem ppV_mid {path : List Box} {h : Hello} (m : h.Mid) : (ppV path h).Mid := by
 unfold ppV pp
 split
 ·exact ppGo_mid path m
 ·exact ⟨by simp, by simp, by simp⟩
theorem ppGo_cases : ∀ (path : List Box) (h : Hello), (ppGo path h).2 = true ∨ ppGo path h = (⟨[], []⟩, false)
 | [], _ => .inl rfl
 | b :: bs, h => by
  unfold ppGo
  split
  ·exact ppGo_cases bs _
  ·exact .inr rfl
theorem pp_cases (path : List Box) (h : Hello) : (pp path h).2 = true ∨ pp path h = (⟨[], []⟩, false) := by
 unfold pp
 split
 ·exact ppGo_cases _ _
 ·exact .inr rfl
theorem ok182r (path : List Box) (h : Hello) (pl : path.length ≤ 1073741824) (pm : ∀ y ∈ path, y.Mid) (mh : h.Mid) {f0 f1 f2 : Fl} (q0 : inFl f0 = true) (q1 : inFl f1 = true) (q2 : inFl f2 = true) (r : Ret) (rA : ∀ z, pp path h = (z, true) → (⟨[sHello (row fI z.versions) (row fExt z.exts) (.ow false) (.ow false), B true], [], none⟩ : Ret) = r) (rC : pp path h = (⟨[], []⟩, false) → (⟨[sHello [] [] .nl .nl, B false], [], none⟩ : Ret) = r) :
  fix Tb md 182 [R (row fBox path) f0, sHello (row fI h.versions) (row fExt h.exts) f1 f2] = some r := by
 have mh' := mh
 unfold Hello.Mid at mh'
 have wh : ∀ y ∈ h.exts, y.body.length ≤ 1099511627776 := fun y hy => Nat.le_trans (show y.body.length ≤ 1073741824 from mh'.2.2 y hy) (by decide)
 obtain ⟨T, hT⟩ := nm (ppGo path h)
 obtain ⟨u, hu⟩ := nm (isHel h)
 obtain ⟨k4, hk4⟩ := nm (decide (path.length ≤ 4))
 have hp : pp path h = if (u && k4) = true then T else (⟨[], []⟩, false) := by rw [hu, hk4, hT]; rfl
 rw [hp] at rA rC
 clear hp
 obtain ⟨ep, hep⟩ := nm (row fBox path)
 obtain ⟨dv, hdv⟩ := nm (row fI h.versions)
 obtain ⟨dx, hdx⟩ := nm (row fExt h.exts)
 rw [← hep, ← hdv, ← hdx]
 refine fix_fn2 (fn := ir182) tb_182 rfl rfl (by decide) rfl ?_; intro Q hQ; simp only [shutArgs, shutS, List.map_cons, List.map_nil, ir182, shut_in q0, shut_in q1, shut_in q2, List.head?_nil, reduceCtorEq, if_false, sExt, sHello, sAnswer, sEdit, sDeal, sBox, sDialed, sKnown]
 intro add sub mul arith eq ne lt le gt ge neg conv mn mx not beq len at' ln bd cut app allS isNil mks set o hP F ho
 have lp := F.len_at hep
 have c1 : o 113 [sHello dv dx (.sp 0 0) (.sp 0 1)] = some ⟨[B u], [], none⟩ := by rw [ho, hu, hdv, hdx]; exact ok113 _ (by omega) (by omega) wh rfl rfl
 have g1 : gt (len ep) 4 = not k4 := by rw [F.gt_n lp (k := 4) (m := 4) rfl, F.not, hk4, Bool.eq_iff_iff]; simp only [decide_eq_true_eq, Bool.not_eq_true', decide_eq_false_iff_not]; omega
 have c2 : o 261 [sHello dv dx (.sp 0 0) (.sp 0 1)] = some ⟨[sHello dv dx (.ow false) (.ow false)], [], none⟩ := by rw [ho, hdv, hdx]; exact ok261 h mh rfl rfl
 cbv
 rw [c1]; cbv
 refine both (fun d1 => ?_) (fun d1 => ?_) <;> rw [d1] <;> cbv
 ·rw [hQ]; cbv
  exact congrArg some (rC (by rw [F.not_t d1]; rfl))
 rw [g1]; cbv
 refine both (fun d2 => ?_) (fun d2 => ?_) <;> rw [d2] <;> cbv
 ·rw [hQ]; cbv
  exact congrArg some (rC (by rw [F.not_t d2, Bool.and_false]; rfl))
 rw [F.not_f d1, F.not_f d2, Bool.true_and, if_pos rfl] at rA rC
 rw [c2]; cbv
 refine loop_ind2 hP (σ := List Box × List Box × Int × Option (Hello × List (List V) × List (List V))) (fun s => match s.2.2.2 with
   | none => [(0, R ep .sh), (1, sHello dv dx .sh .sh), (3, ⟨.ptr 43 0, []⟩), (4, ⟨.ptr 44 0, []⟩), (5, B false), (6, ⟨.ptr 46 0, []⟩), (7, B false), (8, I s.2.2.1), (43, ⟨.box (), [⟨.row () dv, .sh⟩, ⟨.row () dx, .sh⟩]⟩), (44, ⟨.box (), [⟨.row () [], .nl⟩, ⟨.row () [], .nl⟩]⟩), (46, ⟨.box (), [⟨.row () [], .nl⟩, ⟨.row () [], .nl⟩]⟩)]
   | some j => [(0, R ep .sh), (1, sHello dv dx .sh .sh), (3, ⟨.ptr 43 0, []⟩), (4, ⟨.ptr 44 0, []⟩), (5, B false), (6, ⟨.ptr 46 0, []⟩), (7, B true), (8, I s.2.2.1), (43, ⟨.box (), [⟨.row () dv, .sh⟩, ⟨.row () dx, .sh⟩]⟩), (44, ⟨.box (), [⟨.row () [], .nl⟩, ⟨.row () [], .nl⟩]⟩), (46, ⟨.box (), [⟨.row () j.2.1, .ow false⟩, ⟨.row () j.2.2, .ow false⟩]⟩)]) (fun s => At s.2.2.1 s.2.1.length ∧ path = s.2.1 ++ s.1 ∧ (match s.2.2.2 with | none => T = (⟨[], []⟩, false) | some j => ppGo s.1 j.1 = T ∧ j.1.Mid ∧ j.2.1 = row fI j.1.versions ∧ j.2.2 = row fExt j.1.exts)) (fun s => s.1.length) (path, [], 0, some (h, dv, dx)) rfl ⟨rfl, rfl, hT.symm, mh, hdv, hdx⟩ ?_
 intro c9 Q1 hc9 hQ1
 rintro ⟨suf, pre, i, e⟩ ⟨hi, hl', hz⟩ ih
 simp only at hi hl' hz ih
 cases e with
 | none =>
  cbv
  cases suf with
  | nil =>
   rw [F.lt_f hi lp (by simp [hl'])]; cbv
   rw [hQ1]; cbv
   rw [hQ]; cbv
   exact congrArg some (rC hz)
  | cons x suf =>
   rw [F.lt_t hi lp (by simp [hl'])]; cbv
   rw [hQ1]; cbv
   rw [hQ]; cbv
   exact congrArg some (rC hz)
 | some j =>
  obtain ⟨cur, ev, ex⟩ := j
  obtain ⟨z1, z2, z3, z4⟩ := hz
  simp only at z1 z2 z3 z4
  have z2' := z2
  unfold Hello.Mid at z2'
  cases suf with
  | nil =>
   cbv
   rw [F.lt_f hi lp (by simp [hl'])]; cbv
   rw [hQ1]; cbv
   rw [hQ]; cbv
   rw [z3, z4]
   exact congrArg some (rA cur (by rw [← z1]; rfl))
  | cons x suf =>
   obtain ⟨ix, hix⟩ := nm (pre.length * 4)
   obtain ⟨e1, he1⟩ := nm (row fI x.drops)
   obtain ⟨e2, he2⟩ := nm (row fI x.strips)
   have hx := pm x (by rw [hl']; simp)
   unfold Box.Mid at hx
   have hi' : At (add .i64 i 1) (pre ++ [x]).length := at_len (F.inc hi (by rw [hl'] at pl; simp at pl; omega)) (by simp)
   have hl2 : path = (pre ++ [x]) ++ suf := by rw [hl']; simp
   have p0 : at' 4 ep i = some (ix, [.int .i64 x.limit, .row () e1, .row () e2, .bool x.lists]) := by rw [hix, he1, he2]; exact F.get hi hep hl' (fun _ => rfl) (by decide)
   cases hok : pbOk x cur with
   | true =>
    obtain ⟨nx, hnx⟩ := nm (row fExt (sel (stripE x.strips) idE cur.exts))
    have hV : pbV x cur = ⟨cur.versions, sel (stripE x.strips) idE cur.exts⟩ := by rw [pbV, hok]; rfl
    have c3 : o 174 [sBox x.limit e1 e2 x.lists (.sp 0 1) (.sp 0 2), sHello ev ex (.sp 1 0) (.sp 1 1)] = some ⟨[sHello ev nx (.ow false) (.ow false), B true], [], none⟩ := by
     rw [ho, he1, he2, z3, z4, hnx]
     exact ok174r x cur (by omega) (by omega) z2 rfl rfl rfl rfl _ (fun _ => rfl) (fun q => by rw [hok] at q; cases q)
    cbv
    rw [F.lt_t hi lp (by simp [hl'])]; cbv
    rw [p0]; cbv
    rw [c3]; cbv
    refine ih (suf, pre ++ [x], add .i64 i 1, some (pbV x cur, ev, nx)) ⟨hi', hl2, ?_, pbV_mid z2, ?_, ?_⟩ (by simp)
    ·simp only; rw [← z1, ppGo, hok, if_pos rfl]
    ·simp only; rw [hV, z3]
    ·simp only; rw [hV, hnx]
   | false =>
    have c3 : o 174 [sBox x.limit e1 e2 x.lists (.sp 0 1) (.sp 0 2), sHello ev ex (.sp 1 0) (.sp 1 1)] = some ⟨[sHello [] [] .nl .nl, B false], [], none⟩ := by
     rw [ho, he1, he2, z3, z4]
     exact ok174r x cur (by omega) (by omega) z2 rfl rfl rfl rfl _ (fun q => by rw [hok] at q; cases q) (fun _ => rfl)
    cbv
    rw [F.lt_t hi lp (by simp [hl'])]; cbv
    rw [p0]; cbv
    rw [c3]; cbv
    refine ih (suf, pre ++ [x], add .i64 i 1, none) ⟨hi', hl2, ?_⟩ (by simp)
    simp only; rw [← z1, ppGo, hok]; rfl
theorem ok182 (path : List Box) (h : Hello) (pl : path.length ≤ 1073741824) (pm : ∀ y ∈ path, y.Mid) (mh : h.Mid) {f0 f1 f2 : Fl} (q0 : inFl f0 = true) (q1 : inFl f1 = true) (q2 : inFl f2 = true) :
  fix Tb md 182 [R (row fBox path) f0, sHello (row fI h.versions) (row fExt h.exts) f1 f2] = some ⟨[sHello (row fI (ppV path h).versions) (row fExt (ppV path h).exts) (.ow false) (.ow false), B (ppOk path h)], [], none⟩ ∨
  ((ppV path h).versions = [] ∧ (ppV path h).exts = [] ∧ fix Tb md 182 [R (row fBox path) f0, sHello (row fI h.versions) (row fExt h.exts) f1 f2] = some ⟨[sHello [] [] .nl .nl, B (ppOk path h)], [], none⟩) := by
 have hmain := fun r a c => ok182r path h pl pm mh q0 q1 q2 r a c
 unfold ppV ppOk
 rcases hq : pp path h with ⟨z, k⟩
 rcases pp_cases path h with h1 | h1
 ·rw [hq] at h1
  simp only at h1
  subst h1
  exact .inl (hmain _ (fun z' q => by rw [hq] at q; cases q; rfl) (fun q => by rw [hq] at q; cases q))
 ·rw [hq] at h1; cases h1
  exact .inr ⟨rfl, rfl, hmain _ (fun z' q => by rw [hq] at q; cases q) (fun _ => rfl)⟩
theorem ok77 (l : List Int) (hl : l.length ≤ 1099511627776) {f0 : Fl} (h0 : inFl f0 = true) : fix Tb md 77 [R (row fI l) f0] = some ⟨[sHello (row fI l) [] (.ow false) .nl], [], none⟩ := by
 refine fix_fn (fn := ir77) tb_77 rfl rfl (by decide) rfl ?_; simp only [shutArgs, shutS, List.map_cons, List.map_nil, ir77, shut_in h0, List.head?_nil, reduceCtorEq, if_false, sExt, sHello, sAnswer, sEdit, sDeal, sBox, sDialed, sKnown]
 generalize hr : (⟨_, [], none⟩ : Ret) = r
 obtain ⟨ea, hea⟩ := nm (row fI l)
 rw [← hea] at hr ⊢
 intro add sub mul arith eq ne lt le gt ge neg conv mn mx not beq len at' ln bd cut app allS isNil mks set o hP F ho
 cbv
 rw [show allS ea = true from F.scal hea (fun _ => rfl)]; cbv
 rw [F.app_nil hea (fun _ => rfl) hl]; cbv
 exact congrArg some hr
def iop (path : List Box) (versions : List Int) : Bool := areVer versions && ppOk path ⟨versions.take 1, []⟩
def deadV (path : List Box) (v : Int) : Bool := !ppOk path ⟨[v], []⟩
def lvs (path : List Box) (versions : List Int) : List Int := if areVer versions then sel (deadV path) idI versions else []
theorem lvs_len {path : List Box} {versions : List Int} : (lvs path versions).length ≤ versions.length := by
 unfold lvs; split
 ·exact sel_len
 ·simp
theorem ver_mem : ∀ (suf pre : List Int), verGo pre suf = true → ∀ x ∈ suf, inR x 1 9 = true
 | [], _, _ => by simp
 | y :: suf, pre, h => by
  unfold verGo at h
  simp only [Bool.and_eq_true] at h
  intro x hx
  rcases List.mem_cons.1 hx with rfl | hx
  ·exact h.1.1
  ·exact ver_mem suf _ h.2 x hx
theorem iop_one {path : List Box} {versions : List Int} (h : areVer versions = true) {x : Int} (hx : x ∈ versions) : iop path [x] = ppOk path ⟨[x], []⟩ := by
 unfold areVer at h
 simp only [Bool.and_eq_true] at h
 have h1 := ver_mem _ _ h.1 x hx
 unfold iop areVer verGo verGo
 simp [h1]
theorem ok171 (path : List Box) (versions : List Int) (pl : path.length ≤ 1073741824) (pm : ∀ y ∈ path, y.Mid) (hv : versions.length ≤ 1073741824) {f0 f1 : Fl} (q0 : inFl f0 = true) (q1 : inFl f1 = true) : fix Tb md 171 [R (row fBox path) f0, R (row fI versions) f1] = some ⟨[R (row fI (lvs path versions)) (.ow false)], [], none⟩ := by
 obtain ⟨u, hu⟩ := nm (areVer versions)
 obtain ⟨l, hl0⟩ := nm (versions)
 obtain ⟨et, het⟩ := nm (row fI (lvs path versions))
 rw [← het]
 have hT : et = row fI (if u = true then sel (deadV path) idI l else []) := by rw [het, hu, hl0]; rfl
 clear het
 generalize hr : (⟨_, [], none⟩ : Ret) = r
 obtain ⟨ep, hep⟩ := nm (row fBox path)
 obtain ⟨ev, hev⟩ := nm (row fI versions)
 rw [← hep, ← hev]
 rw [← hl0] at hv hev hu
 refine fix_fn2 (fn := ir171) tb_171 rfl rfl (by decide) rfl ?_; intro Q hQ; simp only [shutArgs, shutS, List.map_cons, List.map_nil, ir171, shut_in q0, shut_in q1, List.head?_nil, reduceCtorEq, if_false, sExt, sHello, sAnswer, sEdit, sDeal, sBox, sDialed, sKnown]
 intro add sub mul arith eq ne lt le gt ge neg conv mn mx not beq len at' ln bd cut app allS isNil mks set o hP F ho
 have lv := F.len_at hev
 have c1 : o 255 [R ev (.sp 0 0)] = some ⟨[B u], [], none⟩ := by rw [ho, hu, hev]; exact ok255 _ (by omega) rfl
 cbv
 rw [c1]; cbv
 refine both (fun d1 => ?_) (fun d1 => ?_) <;> rw [d1] <;> cbv
 ·rw [hQ]; cbv
  rw [← hr, hT, F.not_t d1]; rfl
 have hT' : et = row fI (sel (deadV path) idI l) := by rw [hT, F.not_f d1, if_pos rfl]
 refine loop_ind2 hP (σ := List Int × List Int × List (List V) × Int × Option (Int × Bool × Option (List (List V) × List (List V)))) (fun s => match s.2.2.2.2 with
  | none => [(0, R ep .sh), (1, R ev .sh), (4, R [] .nl), (5, R s.2.2.1 (.ow false)), (15, R ev .sh), (16, I (len ev)), (17, I s.2.2.2.1)]
  | some (a, b, none) => [(0, R ep .sh), (1, R ev .sh), (4, R [] .nl), (5, R s.2.2.1 (.ow false)), (7, I a), (9, B b), (15, R ev .sh), (16, I (len ev)), (17, I s.2.2.2.1), (45, ⟨.box (), [⟨.row () [], .nl⟩, ⟨.row () [], .nl⟩]⟩)]
  | some (a, b, some (V, X)) => [(0, R ep .sh), (1, R ev .sh), (4, R [] .nl), (5, R s.2.2.1 (.ow false)), (7, I a), (9, B b), (15, R ev .sh), (16, I (len ev)), (17, I s.2.2.2.1), (45, ⟨.box (), [⟨.row () V, .ow false⟩, ⟨.row () X, .ow false⟩]⟩)])
  (fun s => At s.2.2.2.1 s.2.1.length ∧ l = s.2.1 ++ s.1 ∧ s.2.2.1 = row fI (sel (deadV path) idI s.2.1)) (fun s => s.1.length) (l, [], [], 0, none) rfl ⟨rfl, rfl, rfl⟩ ?_
 intro c9 Q1 hc9 hQ1
 rintro ⟨suf, pre, eo, i, j⟩ ⟨hi, hl', hb⟩ ih
 simp only at hi hl' hb ih
 rcases j with _ | ⟨ja, jb, _ | ⟨jV, jX⟩⟩
 all_goals
  cbv
  cases suf with
  | nil =>
   have hpp : l = pre := by rw [hl', List.append_nil]
   rw [F.lt_f hi lv (by simp [hl'])]; cbv
   rw [hQ1]; cbv
   rw [hQ]; cbv
   rw [← hr, hT', hb, hpp]
  | cons x suf =>
   have hk := ok182 path ⟨[x], []⟩ pl pm ⟨by simp, by simp, by simp⟩ (f0 := .sp 0 0) (f1 := .sp 1 0) (f2 := .nl) rfl rfl rfl
   obtain ⟨w, hw⟩ := nm (ppOk path ⟨[x], []⟩)
   obtain ⟨V1, hV1⟩ := nm (row fI (ppV path ⟨[x], []⟩).versions)
   obtain ⟨X1, hX1⟩ := nm (row fExt (ppV path ⟨[x], []⟩).exts)
   rw [← hep, ← hw, ← hV1, ← hX1] at hk
   have hk := hk
   obtain ⟨ix, hix⟩ := nm (pre.length * 1)
   have hpl : pre.length ≤ 1073741824 := by rw [hl'] at hv; simp at hv; omega
   have p0 : at' 1 ev i = some (ix, [.int .i64 x]) := by rw [hix]; exact F.get hi hev hl' (fun _ => rfl) (by decide)
   have hi' : At (add .i64 i 1) (pre ++ [x]).length := at_len (F.inc hi (by omega)) (by simp)
   have hl2 : l = (pre ++ [x]) ++ suf := by rw [hl']; simp
   have hs : (sel (deadV path) idI pre).length ≤ pre.length := sel_len
   have hPx : deadV path x = !w := by rw [hw]; rfl
   have c2 : o 77 [R [[.int .i64 x]] (.sp 0 0)] = some ⟨[sHello [[.int .i64 x]] [] (.ow false) .nl], [], none⟩ := by rw [ho]; exact ok77 [x] (by simp) rfl
   obtain ⟨eo', heo'⟩ := nm (row fI (sel (deadV path) idI pre ++ [idI x]))
   have p1 : app 1 eo [[.int .i64 x]] = some eo' := by rw [heo']; exact F.push (k := 1) (f := fI) (l := sel (deadV path) idI pre) (x := idI x) hb (fun _ => rfl) rfl (by omega)
   have p2 : allS [[.int .i64 x]] = true := by rw [F.allS]; rfl
   rw [F.lt_t hi lv (by simp [hl'])]; cbv
   rw [p0]; cbv
   rw [c2]; cbv
   rcases hk with hk | ⟨n1, n2, hk⟩
   ·have c3 : o 182 [R ep (.sp 0 0), sHello [[.int .i64 x]] [] (.sp 1 0) .nl] = some ⟨[sHello V1 X1 (.ow false) (.ow false), B w], [], none⟩ := by rw [ho]; exact hk
    rw [c3]; cbv
    refine both (fun d2 => ?_) (fun d2 => ?_) <;> rw [d2] <;> cbv
    ·rw [p2]; cbv
     rw [p1]; cbv
     refine ih (suf, pre ++ [x], eo', add .i64 i 1, some (x, w, some (V1, X1))) ⟨hi', hl2, ?_⟩ (by simp)
     simp only
     rw [sel_t (by rw [hPx, F.not_t d2]; rfl)]; exact heo'
    ·refine ih (suf, pre ++ [x], eo, add .i64 i 1, some (x, w, some (V1, X1))) ⟨hi', hl2, ?_⟩ (by simp)
     simp only
     rw [sel_f (by rw [hPx, F.not_f d2]; rfl)]; exact hb
   ·have c3 : o 182 [R ep (.sp 0 0), sHello [[.int .i64 x]] [] (.sp 1 0) .nl] = some ⟨[sHello [] [] .nl .nl, B w], [], none⟩ := by rw [ho]; exact hk
    rw [c3]; cbv
    refine both (fun d2 => ?_) (fun d2 => ?_) <;> rw [d2] <;> cbv
    ·rw [p2]; cbv
     rw [p1]; cbv
     refine ih (suf, pre ++ [x], eo', add .i64 i 1, some (x, w, none)) ⟨hi', hl2, ?_⟩ (by simp)
     simp only
     rw [sel_t (by rw [hPx, F.not_t d2]; rfl)]; exact heo'
    ·refine ih (suf, pre ++ [x], eo, add .i64 i 1, some (x, w, none)) ⟨hi', hl2, ?_⟩ (by simp)
     simp only
     rw [sel_f (by rw [hPx, F.not_f d2]; rfl)]; exact hb
def seedGo : List Int → Nat → Int → Int
 | [], _, h => h
 | x :: l, n, h => if n < 4000 then seedGo l (n + 1) (bitI .and (w64 (w64 (w64 (h * 137) + w64 x) + 11)) 1073741823) else h
def newC (l : List Int) : Cur := ⟨l, 0, seedGo l 0 (w64 (193017 + (l.length : Int)))⟩
theorem newC_ok {l : List Int} (h : l.length ≤ 1048576) : (newC l).Ok := ⟨Nat.zero_le _, h⟩
theorem ok246 (l : List Int) (hl : l.length ≤ 1048576) : fix Tb md 246 [R (row fU l) (.sp 0 0)] = some ⟨[sCur (row fU l) .no 0 (newC l).h], [], none⟩ := by
 obtain ⟨T, hT⟩ := nm (newC l).h
 rw [← hT]
 generalize hr : (⟨_, [], none⟩ : Ret) = r
 obtain ⟨ea, hea⟩ := nm (row fU l)
 rw [← hea] at hr ⊢
 obtain ⟨h0', hh0'⟩ := nm (w64 (193017 + (l.length : Int)))
 have hT' : seedGo l 0 h0' = T := by rw [hT, hh0']; rfl
 have h0 : inFl (.sp 0 0) = true := rfl
 refine fix_fn2 (fn := ir246) tb_246 rfl rfl (by decide) rfl ?_; intro Q hQ; simp only [shutArgs, shutS, List.map_cons, List.map_nil, ir246, shut_in h0, List.head?_nil, reduceCtorEq, if_false, sExt, sHello, sAnswer, sEdit, sDeal, sBox, sDialed, sKnown]
 intro add sub mul arith eq ne lt le gt ge neg conv mn mx not beq len at' ln bd cut app allS isNil mks set o hP F ho
 have la := F.len_at hea
 have g0 : add .i64 193017 (len ea) = h0' := by rw [F.add, hh0', la]; rfl
 cbv
 rw [g0]
 refine loop_ind2 hP (σ := List Int × List Int × Int × Int) (fun s => [(0, R ea .sh), (3, I s.2.2.1), (4, I s.2.2.2)]) (fun s => At s.2.2.2 s.2.1.length ∧ l = s.2.1 ++ s.1 ∧ seedGo s.1 s.2.1.length s.2.2.1 = T) (fun s => s.1.length) (l, [], h0', 0) rfl ⟨rfl, rfl, hT'⟩ ?_
 intro c9 Q1 hc9 hQ1
 rintro ⟨suf, pre, h, i⟩ ⟨hi, hl', hb⟩ ih
 simp only at hi hl' hb ih
 cbv
 cases suf with
 | nil =>
  have hhT : h = T := hb
  rw [F.lt_f hi la (by simp [hl'])]; cbv
  rw [hQ1]; cbv
  rw [hhT, hQ]; cbv
  exact congrArg some hr
 | cons x suf =>
  have hpl : pre.length ≤ 1048576 := by rw [hl'] at hl; simp at hl; omega
  have g1 : lt i 4000 = decide (pre.length < 4000) := F.lt_n hi (k := 4000) (m := 4000) rfl
  unfold seedGo at hb
  rw [F.lt_t hi la (by simp [hl'])]; cbv
  refine both (fun d1 => ?_) (fun d1 => ?_) <;> rw [d1] <;> cbv
  ·rw [g1, decide_eq_true_eq] at d1
   rw [if_pos d1] at hb
   obtain ⟨ix, hix⟩ := nm (pre.length * 1)
   have p0 : at' 1 ea i = some (ix, [.int .u8 x]) := by rw [hix]; exact F.get hi hea hl' (fun _ => rfl) (by decide)
   obtain ⟨h1, hh1⟩ := nm (w64 (h * 137))
   obtain ⟨y, hy⟩ := nm (w64 x)
   obtain ⟨h2, hh2⟩ := nm (w64 (h1 + y))
   obtain ⟨h3, hh3⟩ := nm (w64 (h2 + 11))
   obtain ⟨h4, hh4⟩ := nm (bitI .and h3 1073741823)
   rw [← hh1, ← hy, ← hh2, ← hh3, ← hh4] at hb
   have g2 : mul .i64 h 137 = h1 := by rw [F.mul, hh1]; rfl
   have g3 : conv .i64 x = y := by rw [F.conv, hy]; rfl
   have g4 : add .i64 h1 y = h2 := by rw [F.add, hh2]; rfl
   have g5 : add .i64 h2 11 = h3 := by rw [F.add, hh3]; rfl
   have g6 : arith .and .i64 h3 1073741823 = some (.int .i64 h4) := by rw [F.arith, hh4]; rfl
   rw [p0]; cbv
   rw [g2, g3, g4, g5, g6]; cbv
   exact ih (suf, pre ++ [x], h4, add .i64 i 1) ⟨at_len (F.inc hi (by omega)) (by simp), by rw [hl']; simp, by simpa using hb⟩ (by simp)
  ·rw [g1, decide_eq_false_iff_not] at d1
   have hhT : h = T := by rw [if_neg d1] at hb; exact hb
   rw [hQ1]; cbv
   rw [hhT, hQ]; cbv
   exact congrArg some hr
def comm (a b : List Int) : List Int := sel (hasI b) idI a
def bestC (a b : List Int) : Int := if areVer a && areVer b then (comm a b).getLastD 0 else 0
theorem ver_asc : ∀ (suf pre : List Int), verGo pre suf = true → (∀ y, pre.getLast? = some y → ∀ x ∈ suf, y < x) ∧ suf.Pairwise (· < ·) ∧ ∀ x ∈ suf, 1 ≤ x ∧ x ≤ 9
 | [], _, _ => ⟨by simp, .nil, by simp⟩
 | x :: suf, pre, h => by
  unfold verGo at h
  simp only [Bool.and_eq_true] at h
  obtain ⟨⟨h1, h2⟩, h3⟩ := h
  obtain ⟨i1, i2, i3⟩ := ver_asc suf _ h3
  have i1' := i1 x (by simp)
  have hx : 1 ≤ x ∧ x ≤ 9 := by unfold inR at h1; simpa using h1
  refine ⟨?_, List.pairwise_cons.2 ⟨i1', i2⟩, ?_⟩
  ·intro y hy z hz
   rw [hy] at h2
   simp only [Bool.not_eq_true', decide_eq_false_iff_not] at h2
   rcases List.mem_cons.1 hz with rfl | hz
   ·omega
   ·have := i1' z hz; omega
  ·intro z hz
   rcases List.mem_cons.1 hz with rfl | hz
   ·exact hx
   ·exact i3 z hz
theorem areVer_asc {l : List Int} (h : areVer l = true) : l.Pairwise (· < ·) ∧ ∀ x ∈ l, 1 ≤ x ∧ x ≤ 9 := by
 unfold areVer at h
 simp only [Bool.and_eq_true] at h
 exact (ver_asc l [] h.1).2
def mxI (x y : Int) : Int := if y > x then y else x
theorem mx_last : ∀ (l : List Int) (d : Int), l.Pairwise (· < ·) → (∀ x ∈ l, d < x) → l.foldl mxI d = l.getLastD d
 | [], _, _, _ => rfl
 | x :: l, d, h1, h2 => by
  rw [List.foldl_cons, show mxI d x = x by unfold mxI; rw [if_pos (h2 x (by simp))]]
  rw [mx_last l x (List.pairwise_cons.1 h1).2 (List.pairwise_cons.1 h1).1]
  cases l <;> rfl
theorem comm_asc {a b : List Int} (h : areVer a = true) : (comm a b).Pairwise (· < ·) ∧ ∀ x ∈ comm a b, 1 ≤ x ∧ x ≤ 9 := by
 obtain ⟨h1, h2⟩ := areVer_asc h
 unfold comm
 rw [sel_idI]
 exact ⟨h1.filter _, fun x hx => h2 x (List.mem_filter.1 hx).1⟩
theorem comm_max {a b : List Int} (h : areVer a = true) : (comm a b).foldl mxI 0 = (comm a b).getLastD 0 := by
 obtain ⟨h1, h2⟩ := comm_asc (b := b) h
 exact mx_last _ _ h1 fun x hx => by have := h2 x hx; omega
theorem last_split {l : List Int} (h : l ≠ []) : l = l.dropLast ++ [l.getLastD 0] := by
 rw [List.getLastD_eq_getLast?, List.getLast?_eq_some_getLast h]
 exact (List.dropLast_concat_getLast h).symm
def l4Go (n : Int) : List Int → List Int → List Int
 | pre, [] => pre ++ [n]
 | pre, x :: suf => if x < n then l4Go n (pre ++ [x]) suf else if x = n then pre ++ x :: suf else pre ++ n :: x :: suf
def l4V (l : List Int) (n : Int) : List Int := l4Go n [] l
theorem l4Go_len (n : Int) : ∀ (suf pre : List Int), (l4Go n pre suf).length ≤ pre.length + suf.length + 1
 | [], pre => by simp [l4Go]
 | x :: suf, pre => by
  unfold l4Go
  split
  ·have := l4Go_len n suf (pre ++ [x]); simp at this ⊢; omega
  ·split <;> simp <;> omega
theorem l4V_len (l : List Int) (n : Int) : (l4V l n).length ≤ l.length + 1 := by have := l4Go_len n l []; simpa [l4V] using this
theorem l4Go_perm (n : Int) : ∀ (suf pre : List Int), n ∉ suf → (l4Go n pre suf).Perm (n :: (pre ++ suf))
 | [], pre, _ => by unfold l4Go; rw [List.append_nil]; exact List.perm_append_singleton n pre
 | x :: suf, pre, h => by
  unfold l4Go
  simp only [List.mem_cons, not_or] at h
  split
  ·have := l4Go_perm n suf (pre ++ [x]) h.2
   simpa using this
  ·rw [if_neg (fun e => h.1 e.symm)]
   exact List.perm_middle
theorem l4Go_asc (n : Int) : ∀ (suf pre : List Int), (pre ++ suf).Pairwise (· < ·) → n ∉ suf → (∀ x ∈ pre, x < n) → (l4Go n pre suf).Pairwise (· < ·)
 | [], pre, h1, _, h3 => by
  unfold l4Go
  rw [List.append_nil] at h1
  rw [List.pairwise_append]
  exact ⟨h1, by simp, fun a ha b hb => by simp at hb; subst hb; exact h3 a ha⟩
 | x :: suf, pre, h1, h2, h3 => by
  unfold l4Go
  simp only [List.mem_cons, not_or] at h2
  split
  ·rename_i hx
   refine l4Go_asc n suf (pre ++ [x]) (by simpa using h1) h2.2 (fun y hy => ?_)
   rcases List.mem_append.1 hy with hy | hy
   ·exact h3 y hy
   ·simp at hy; subst hy; exact hx
  ·rename_i hx
   rw [if_neg (fun e => h2.1 e.symm)]
   rw [List.pairwise_append] at h1 ⊢
   obtain ⟨p1, p2, p3⟩ := h1
   have hnx : n < x := by have := h2.1; omega
   refine ⟨p1, List.pairwise_cons.2 ⟨fun y hy => ?_, p2⟩, fun a ha b hb => ?_⟩
   ·rcases List.mem_cons.1 hy with rfl | hy
    ·exact hnx
    ·exact Int.lt_trans hnx ((List.pairwise_cons.1 p2).1 y hy)
   ·rcases List.mem_cons.1 hb with rfl | hb
    ·exact h3 a ha
    ·exact p3 a ha b hb
theorem sortI_put {l : List Int} {n : Int} (h : areVer l = true) (hn : hasI l n = false) : sortI (l ++ [n]) = l4V l n := by
 have hm : n ∉ l := fun q => by
  unfold hasI at hn
  rw [List.any_eq_false] at hn
  exact hn n q (by simp)
 obtain ⟨h1, _⟩ := areVer_asc h
 have p1 : (l4V l n).Perm (n :: l) := by have := l4Go_perm n l [] hm; simpa [l4V] using this
 have p2 : (sortI (l ++ [n])).Perm (l ++ [n]) := List.mergeSort_perm _ _
 have s1 : (l4V l n).Pairwise (· < ·) := l4Go_asc n l [] (by simpa using h1) hm (by simp)
 have s2 : (sortI (l ++ [n])).Pairwise (fun a b => decide (a ≤ b) = true) := List.pairwise_mergeSort (fun a b c => by simp; omega) (fun a b => by simp; omega) _
 refine List.Perm.eq_of_pairwise (le := fun a b => a ≤ b) (fun a b _ _ h1 h2 => Int.le_antisymm h1 h2) (s2.imp (fun h => by simpa using h)) (s1.imp (fun h => Int.le_of_lt h)) ?_
 exact p2.trans ((List.perm_append_singleton n l).trans p1.symm)
def avOk (l : List Int) (v : Int) : Bool := areVer l && inR v 1 9 && !hasI l v
def avV (l : List Int) (v : Int) : List Int := if avOk l v then l4V l v else l
theorem avV_len (l : List Int) (v : Int) : (avV l v).length ≤ l.length + 1 := by
 unfold avV; split
 ·exact l4V_len l v
 ·omega
theorem ok345 (l : List Int) (n : Int) (hl : l.length ≤ 1073741824) {f0 : Fl} (q0 : inFl f0 = true) : fix Tb md 345 [R (row fI l) f0, I n] = some ⟨[R (row fI (l4V l n)) (.ow false)], [], none⟩ := by
 obtain ⟨T, hT⟩ := nm (l4V l n)
 rw [← hT]
 obtain ⟨et, het⟩ := nm (row fI T)
 rw [← het]
 generalize hr : (⟨_, [], none⟩ : Ret) = r
 obtain ⟨ea, hea⟩ := nm (row fI l)
 rw [← hea]
 refine fix_fn2 (fn := ir345) tb_345 rfl rfl (by decide) rfl ?_; intro Q hQ; simp only [shutArgs, shutS, List.map_cons, List.map_nil, ir345, shut_in q0, List.head?_nil, reduceCtorEq, if_false, sExt, sHello, sAnswer, sEdit, sDeal, sBox, sDialed, sKnown]
 intro add sub mul arith eq ne lt le gt ge neg conv mn mx not beq len at' ln bd cut app allS isNil mks set o hP F ho
 have la := F.len_at hea
 have p9 : allS [[.int .i64 n]] = true := by rw [F.allS]; rfl
 cbv
 refine loop_ind2 hP (σ := List Int × List Int × Int) (fun s => [(0, R ea .sh), (1, I n), (4, R [] .nl), (5, I s.2.2)]) (fun s => At s.2.2 s.2.1.length ∧ l = s.2.1 ++ s.1 ∧ l4Go n s.2.1 s.1 = T) (fun s => s.1.length) (l, [], 0) rfl ⟨rfl, rfl, hT.symm⟩ ?_
 intro c9 Q1 hc9 hQ1
 rintro ⟨suf, pre, i⟩ ⟨hi, hl', hb⟩ ih
 simp only at hi hl' hb ih
 have hpl : pre.length ≤ 1073741824 := by rw [hl'] at hl; simp at hl; omega
 obtain ⟨m, hm⟩ := nm (pre.length)
 obtain ⟨e1, he1⟩ := nm (row fI pre)
 obtain ⟨e2, he2⟩ := nm (row fI suf)
 obtain ⟨e3, he3⟩ := nm (row fI (pre ++ [n]))
 obtain ⟨e4, he4⟩ := nm (row fI (pre ++ [n] ++ suf))
 have b1 : bd (ln ea) i = some m := by rw [F.ln' hea, hm]; exact F.bd' hi (by rw [hl']; simp)
 have b2 : cut 1 ea m 0 = some e1 := by rw [F.cut' hea (fun _ => rfl), he1, hl', hm]; simp
 have b3 : cut 1 ea (ln ea) m = some e2 := by rw [F.cut' hea (fun _ => rfl), F.ln' hea, he2, hl', hm, List.take_length]; simp
 have p1 : allS e1 = true := F.scal he1 (fun _ => rfl)
 have p2 : app 1 [] e1 = some e1 := F.app_nil he1 (fun _ => rfl) (by omega)
 have p3 : app 1 e1 [[.int .i64 n]] = some e3 := by rw [he3]; exact F.push he1 (fun _ => rfl) rfl (by omega)
 have p4 : allS e2 = true := F.scal he2 (fun _ => rfl)
 have p5 : app 1 e3 e2 = some e4 := by rw [he4]; exact F.app' he3 he2 (fun _ => rfl) (by rw [hl'] at hl; simp at hl ⊢; omega)
 cbv
 cases suf with
 | nil =>
  rw [F.lt_f hi la (by simp [hl'])]; cbv
  rw [hQ1]; cbv
  rw [F.lt_f hi la (by simp [hl'])]; cbv
  rw [b1]; cbv
  rw [b2]; cbv
  rw [p1]; cbv
  rw [p2]; cbv
  rw [p9]; cbv
  rw [p3]; cbv
  rw [b1]; cbv
  rw [b3]; cbv
  rw [p4]; cbv
  rw [p5]; cbv
  rw [hQ]; cbv
  rw [← hr, het, ← hb, he4]; unfold l4Go; simp
 | cons x suf =>
  obtain ⟨ix, hix⟩ := nm (pre.length * 1)
  have p0 : at' 1 ea i = some (ix, [.int .i64 x]) := by rw [hix]; exact F.get hi hea hl' (fun _ => rfl) (by decide)
  have g1 : lt x n = decide (x < n) := F.lt ..
  have g2 : eq x n = decide (x = n) := F.eq ..
  unfold l4Go at hb
  rw [F.lt_t hi la (by simp [hl'])]; cbv
  rw [p0]; cbv
  refine both (fun d1 => ?_) (fun d1 => ?_) <;> rw [d1] <;> cbv
  ·rw [g1, decide_eq_true_eq] at d1
   rw [if_pos d1] at hb
   refine ih (suf, pre ++ [x], add .i64 i 1) ⟨at_len (F.inc hi (by omega)) (by simp), by rw [hl']; simp, hb⟩ (by simp)
  rw [hQ1]; cbv
  rw [g1, decide_eq_false_iff_not] at d1
  rw [if_neg d1] at hb
  rw [F.lt_t hi la (by simp [hl'])]; cbv
  rw [p0]; cbv
  refine both (fun d2 => ?_) (fun d2 => ?_) <;> rw [d2] <;> cbv
  ·rw [g2, decide_eq_true_eq] at d2
   rw [if_pos d2] at hb
   rw [show allS ea = true from F.scal hea (fun _ => rfl)]; cbv
   rw [F.app_nil hea (fun _ => rfl) (by omega)]; cbv
   rw [hQ]; cbv
   rw [← hr, het, ← hb, hea, hl']
  ·rw [g2, decide_eq_false_iff_not] at d2
   rw [if_neg d2] at hb
   rw [b1]; cbv
   rw [b2]; cbv
   rw [p1]; cbv
   rw [p2]; cbv
   rw [p9]; cbv
   rw [p3]; cbv
   rw [b1]; cbv
   rw [b3]; cbv
   rw [p4]; cbv
   rw [p5]; cbv
   rw [hQ]; cbv
   rw [← hr, het, ← hb, he4]; simp
end Go.Vm
