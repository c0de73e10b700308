/- What the functions answer. -/
import Derived.Test.YtijojkfdbpiimaaGATab
import Derived.Test.YtijojkfdbpiimaaGAFA
import Derived.Test.YtijojkfdbpiimaaGAFB
set_option maxHeartbeats 4000000
set_option maxRecDepth 10000
set_option linter.unusedVariables false
set_option linter.unusedSimpArgs false
namespace Go.Vm
def comm (a b : List Int) : List Int := sel (hasI b) idI a
def bestC (a b : List Int) : Int := if areVer a && areVer b then (comm a b).getLastD 0 else 0
theorem ver_asc : ∀ (suf pre : List Int), verGo pre suf = true → (∀ y, pre.getLast? = some y → ∀ x ∈ suf, y < x) ∧ suf.Pairwise (· < ·) ∧ ∀ x ∈ suf, 1 ≤ x ∧ x ≤ 9
 | [], _, _ => ⟨by simp, .nil, by simp⟩
 | x :: suf, pre, h => by
  unfold verGo at h
  simp only [Bool.and_eq_true] at h
  obtain ⟨⟨h1, h2⟩, h3⟩ := h
  obtain ⟨i1, i2, i3⟩ := ver_asc suf _ h3
  have i1' := i1 x (by simp)
  have hx : 1 ≤ x ∧ x ≤ 9 := by unfold inR at h1; simpa using h1
  refine ⟨?_, List.pairwise_cons.2 ⟨i1', i2⟩, ?_⟩
  ·intro y hy z hz
   rw [hy] at h2
   simp only [Bool.not_eq_true', decide_eq_false_iff_not] at h2
   rcases List.mem_cons.1 hz with rfl | hz
   ·omega
   ·have := i1' z hz; omega
  ·intro z hz
   rcases List.mem_cons.1 hz with rfl | hz
   ·exact hx
   ·exact i3 z hz
theorem areVer_asc {l : List Int} (h : areVer l = true) : l.Pairwise (· < ·) ∧ ∀ x ∈ l, 1 ≤ x ∧ x ≤ 9 := by
 unfold areVer at h
 simp only [Bool.and_eq_true] at h
 exact (ver_asc l [] h.1).2
def mxI (x y : Int) : Int := if y > x then y else x
theorem mx_last : ∀ (l : List Int) (d : Int), l.Pairwise (· < ·) → (∀ x ∈ l, d < x) → l.foldl mxI d = l.getLastD d
 | [], _, _, _ => rfl
 | x :: l, d, h1, h2 => by
  rw [List.foldl_cons, show mxI d x = x by unfold mxI; rw [if_pos (h2 x (by simp))]]
  rw [mx_last l x (List.pairwise_cons.1 h1).2 (List.pairwise_cons.1 h1).1]
  cases l <;> rfl
theorem comm_asc {a b : List Int} (h : areVer a = true) : (comm a b).Pairwise (· < ·) ∧ ∀ x ∈ comm a b, 1 ≤ x ∧ x ≤ 9 := by
 obtain ⟨h1, h2⟩ := areVer_asc h
 unfold comm
 rw [sel_idI]
 exact ⟨h1.filter _, fun x hx => h2 x (List.mem_filter.1 hx).1⟩
theorem comm_max {a b : List Int} (h : areVer a = true) : (comm a b).foldl mxI 0 = (comm a b).getLastD 0 := by
 obtain ⟨h1, h2⟩ := comm_asc (b := b) h
 exact mx_last _ _ h1 fun x hx => by have := h2 x hx; omega
theorem last_split {l : List Int} (h : l ≠ []) : l = l.dropLast ++ [l.getLastD 0] := by
 rw [List.getLastD_eq_getLast?, List.getLast?_eq_some_getLast h]
 exact (List.dropLast_concat_getLast h).symm
def helB (h : Hello) : List Int := if isHel h then (h.versions.length : Int) :: h.versions ++ encX h.exts else []
theorem isHel_ex {h : Hello} (q : isHel h = true) : areEx h.exts = true := by unfold isHel at q; simp only [Bool.and_eq_true] at q; exact q.2
theorem helB_len (h : Hello) : (helB h).length ≤ h.versions.length + 39 := by
 unfold helB
 split
 ·rename_i q
  have := encX_len (isHel_ex q)
  simp; omega
 ·simp
theorem asc_len : ∀ (l : List Int) (d : Int), d ≤ 9 → l.Pairwise (· < ·) → (∀ x ∈ l, d < x ∧ x ≤ 9) → (l.length : Int) ≤ 9 - d
 | [], d, h, _, _ => by simp; omega
 | x :: l, d, h, h1, h2 => by
  have hx := h2 x (by simp)
  have := asc_len l x hx.2 (List.pairwise_cons.1 h1).2 (fun y hy => ⟨(List.pairwise_cons.1 h1).1 y hy, (h2 y (by simp [hy])).2⟩)
  simp only [List.length_cons, Int.natCast_add, Int.natCast_one]; omega
theorem isHel_vl {h : Hello} (q : isHel h = true) : h.versions.length ≤ 9 := by
 unfold isHel at q; simp only [Bool.and_eq_true] at q
 obtain ⟨h1, h2⟩ := areVer_asc q.1
 have := asc_len h.versions 0 (by decide) h1 (fun x hx => by have := h2 x hx; omega)
 omega
theorem helB_small (h : Hello) : (helB h).length ≤ 48 := by
 cases q : isHel h with
 | true => have := isHel_vl q; have := helB_len h; omega
 | false => unfold helB; rw [q]; simp
theorem ok162 (h : Hello) (mh : h.Mid) {f0 f1 : Fl} (q0 : inFl f0 = true) (q1 : inFl f1 = true) : fix Tb md 162 [sHello (row fI h.versions) (row fExt h.exts) f0 f1] = some ⟨[R (row fI (helB h)) (.ow false)], [], none⟩ := by
 have mh' := mh
 unfold Hello.Mid at mh'
 have hvl := mh'.1
 have hxl := mh'.2.1
 have wh : ∀ y ∈ h.exts, y.body.length ≤ 1099511627776 := fun y hy => Nat.le_trans (show y.body.length ≤ 1073741824 from mh'.2.2 y hy) (by decide)
 have k1 := ok142 h (by omega) (by omega) wh (f0 := .sp 0 0) (f1 := .sp 0 1) rfl rfl
 cases hi : isHel h with
 | false =>
  rw [hi] at k1
  have hb : helB h = [] := by unfold helB; rw [hi]; rfl
  rw [hb]
  generalize hr : (⟨_, [], none⟩ : Ret) = r
  obtain ⟨dv, hdv⟩ := nm (row fI h.versions)
  obtain ⟨dx, hdx⟩ := nm (row fExt h.exts)
  rw [← hdv, ← hdx] at k1 ⊢
  refine fix_fn2 (fn := ir162) tb_162 rfl rfl (by decide) rfl ?_; intro Q hQ; simp only [shutArgs, shutS, List.map_cons, List.map_nil, ir162, shut_in q0, shut_in q1, List.head?_nil, reduceCtorEq, if_false, sExt, sHello, sAnswer, sEdit, sDeal, sBox, sDialed, sKnown]
  intro add sub mul arith eq ne lt le gt ge neg conv mn mx not beq len at' ln bd cut app allS isNil mks set o hP F ho
  rw [← ho] at k1
  cbv
  rw [k1]; cbv
  rw [show not false = true by rw [F.not]; rfl]; cbv
  rw [hQ]; cbv
  exact congrArg some hr
 | true =>
  rw [hi] at k1
  have hok := isHel_ex hi
  have hlen := encX_len hok
  have hb : helB h = (h.versions.length : Int) :: h.versions ++ encX h.exts := by unfold helB; rw [hi]; rfl
  rw [hb]
  obtain ⟨n, hn⟩ := nm ((h.versions.length : Int))
  obtain ⟨et, het⟩ := nm (row fI (n :: h.versions ++ encX h.exts))
  rw [← hn, ← het]
  generalize hr : (⟨_, [], none⟩ : Ret) = r
  obtain ⟨dv, hdv⟩ := nm (row fI h.versions)
  obtain ⟨dx, hdx⟩ := nm (row fExt h.exts)
  rw [← hdv, ← hdx] at k1 ⊢
  obtain ⟨ex, hex⟩ := nm (row fI (encX h.exts))
  refine fix_fn2 (fn := ir162) tb_162 rfl rfl (by decide) rfl ?_; intro Q hQ; simp only [shutArgs, shutS, List.map_cons, List.map_nil, ir162, shut_in q0, shut_in q1, List.head?_nil, reduceCtorEq, if_false, sExt, sHello, sAnswer, sEdit, sDeal, sBox, sDialed, sKnown]
  intro add sub mul arith eq ne lt le gt ge neg conv mn mx not beq len at' ln bd cut app allS isNil mks set o hP F ho
  rw [← ho] at k1
  have c2 : o 293 [R dx (.sp 0 0)] = some ⟨[R ex (.ow false), B true], [], none⟩ := by rw [ho, hdx, hex]; exact ok293 _ hok rfl
  have g1 : len dv = n := by rw [hn]; exact F.len_at hdv
  cbv
  rw [k1]; cbv
  rw [show not true = false by rw [F.not]; rfl]; cbv
  rw [c2]; cbv
  rw [g1]; cbv
  obtain ⟨e1, he1⟩ := nm (row fI (n :: h.versions))
  have p1 : app 1 [[.int .i64 n]] dv = some e1 := by rw [he1]; exact F.app' (f := fI) (k := 1) (e1 := [[.int .i64 n]]) (l1 := [n]) rfl hdv (fun _ => rfl) (by simp; omega)
  have p2 : app 1 e1 ex = some et := by rw [het]; exact F.app' (f := fI) (k := 1) he1 hex (fun _ => rfl) (by simp; omega)
  have p3 : allS dv = true := F.scal hdv (fun _ => rfl)
  have p4 : allS ex = true := F.scal hex (fun _ => rfl)
  rw [p3]; cbv
  rw [p1]; cbv
  rw [p4]; cbv
  rw [p2]; cbv
  rw [hQ]; cbv
  exact congrArg some hr
theorem ok255 (l : List Int) (hl : l.length ≤ 1099511627776) {f0 : Fl} (h0 : inFl f0 = true) : fix Tb md 255 [R (row fI l) f0] = some ⟨[B (areVer l)], [], none⟩ := by
 obtain ⟨T, hT⟩ := nm (verGo [] l)
 rw [show areVer l = (T && decide (0 < l.length)) by rw [hT]; rfl]
 generalize hr : (⟨_, [], none⟩ : Ret) = r
 obtain ⟨ea, hea⟩ := nm (row fI l)
 rw [← hea]
 refine fix_fn2 (fn := ir255) tb_255 rfl rfl (by decide) rfl ?_; intro Q hQ; simp only [shutArgs, shutS, List.map_cons, List.map_nil, ir255, shut_in h0, List.head?_nil, reduceCtorEq, if_false, sExt, sHello, sAnswer, sEdit, sDeal, sBox, sDialed, sKnown]
 intro add sub mul arith eq ne lt le gt ge neg conv mn mx not beq len at' ln bd cut app allS isNil mks set o hP F ho
 have la := F.len_at hea
 have h6 : gt (len ea) 0 = decide (0 < l.length) := F.gt_n la rfl
 cbv
 refine loop_ind2 hP (σ := List Int × List Int × Int × Option (Int × Int)) (fun s => match s.2.2.2 with | none => [(0, R ea .sh), (2, B false), (5, R ea .sh), (6, I (len ea)), (7, I s.2.2.1)] | some j => [(0, R ea .sh), (2, B false), (3, I j.1), (4, I j.2), (5, R ea .sh), (6, I (len ea)), (7, I s.2.2.1)]) (fun s => At s.2.2.1 s.2.1.length ∧ l = s.2.1 ++ s.1 ∧ verGo s.2.1 s.1 = T) (fun s => s.1.length) (l, [], 0, none) rfl ⟨rfl, rfl, hT.symm⟩ ?_
 intro c1 Q1 hc1 hQ1
 rintro ⟨suf, pre, i, j⟩ ⟨hi, hl', hb⟩ ih
 simp only at hi hl' hb ih
 rcases j with _ | ⟨j1, j2⟩
 all_goals
  cbv
  cases suf with
  | nil =>
   rw [F.lt_f hi la (by simp [hl'])]; cbv
   rw [hQ1]; cbv
   rw [hQ]; cbv
   rw [h6, ← hr, ← hb]; rfl
  | cons x suf =>
   obtain ⟨ix, hix⟩ := nm (pre.length * 1)
   have hpre : pre.length ≤ 1099511627776 := by rw [hl'] at hl; simp at hl; omega
   have p0 : at' 1 ea i = some (ix, [.int .i64 x]) := by rw [hix]; exact F.get hi hea hl' (fun _ => rfl) (by decide)
   obtain ⟨b1, hb1⟩ := nm (inR x 1 9)
   have c1 : o 232 [I x, I 1, I 9] = some ⟨[B b1], [], none⟩ := by rw [ho, hb1]; exact ok232 ..
   have hv0 : verGo pre (x :: suf) = (b1 && (match pre.getLast? with | none => true | some y => !decide (x ≤ y)) && verGo (pre ++ [x]) suf) := by rw [hb1]; rfl
   rw [hv0] at hb
   have hi' : At (add .i64 i 1) (pre ++ [x]).length := at_len (F.inc hi (by omega)) (by simp)
   have hl2 : l = (pre ++ [x]) ++ suf := by rw [hl']; simp
   have hg0 : gt i 0 = decide (0 < pre.length) := F.gt_n hi rfl
   rw [F.lt_t hi la (by simp [hl'])]; cbv
   rw [p0]; cbv
   rw [c1]; cbv
   refine both (fun d1 => ?_) (fun d1 => ?_) <;> rw [d1] <;> cbv
   ·rw [hQ1]; cbv
    rw [hQ]; cbv
    rw [← hr, show T = false by rw [← hb, F.not_t d1]; rfl]; rfl
   rw [F.not_f d1, Bool.true_and] at hb
   rcases List.eq_nil_or_concat pre with hp | ⟨p', y, hp⟩
   ·rw [show gt i 0 = false by rw [hg0, hp]; rfl]; cbv
    refine ih (suf, pre ++ [x], add .i64 i 1, some (i, x)) ⟨hi', hl2, ?_⟩ (by simp)
    simp only
    rw [← hb, hp]; rfl
   ·rw [show gt i 0 = true by rw [hg0, hp]; simp]; cbv
    obtain ⟨iy, hiy⟩ := nm (p'.length * 1)
    have hi2 : At (sub .i64 i 1) p'.length := by unfold At at hi ⊢; rw [hp] at hi; simp at hi; rw [F.sub, hi, wrap64 (by omega) (by rw [hp] at hpre; simp at hpre; omega)]; omega
    rw [show at' 1 ea (sub .i64 i 1) = some (iy, [.int .i64 y]) by rw [hiy]; exact F.get hi2 hea (show l = p' ++ y :: (x :: suf) by rw [hl', hp]; simp) (fun _ => rfl) (by decide)]; cbv
    skip
    obtain ⟨u, hu⟩ := nm (decide (x ≤ y))
    rw [show ge y x = u by rw [F.ge, hu]]; cbv
    have hgl : pre.getLast? = some y := by rw [hp]; simp
    rw [hgl] at hb
    simp only at hb
    rw [← hu] at hb
    refine both (fun d3 => ?_) (fun d3 => ?_) <;> rw [d3] <;> cbv
    ·rw [hQ1]; cbv
     rw [hQ]; cbv
     rw [← hr, show T = false by rw [← hb, d3]; rfl]; rfl
    ·refine ih (suf, pre ++ [x], add .i64 i 1, some (i, x)) ⟨hi', hl2, ?_⟩ (by simp)
     rw [← hb, d3]; simp
theorem ok351_0 (g : Nat) (hg : md g = []) (p : Ext → Bool) (l : List Ext) (hl : l.length ≤ 1099511627776) (hp : ∀ x ∈ l, fix Tb md g [sExt x.tag (row fI x.body) (.sp 0 1)] = some ⟨[B (p x)], [], none⟩) {f0 : Fl} (h0 : inFl f0 = true) :
  fix Tb md 351 [R (row fExt l) f0, ⟨.val, [⟨.fn g [], .sh⟩]⟩] = some ⟨[I (ixOf p l 0)], [], none⟩ := by
 generalize hm : md = m at hg hp ⊢
 refine fix_fn (fn := ir351) tb_351 rfl rfl (by decide) rfl ?_; simp only [shutArgs, shutS, List.map_cons, List.map_nil, ir351, shut_in h0, List.head?_nil, reduceCtorEq, if_false, sExt, sHello, sAnswer, sEdit, sDeal, sBox, sDialed, sKnown]
 generalize hr : (⟨_, [], none⟩ : Ret) = r
 obtain ⟨ea, hea⟩ := nm (row fExt l)
 rw [← hea]
 intro add sub mul arith eq ne lt le gt ge neg conv mn mx not beq len at' ln bd cut app allS isNil mks set o hP F ho
 have la := F.len_at hea
 cbv
 refine loop_ind hP (σ := List Ext × List Ext × Int × Option Int) (fun s => match s.2.2.2 with | none => [(0, R ea .sh), (1, ⟨.val, [⟨.fn g [], .sh⟩]⟩), (4, I 0), (7, I (len ea)), (8, I s.2.2.1)] | some j => [(0, R ea .sh), (1, ⟨.val, [⟨.fn g [], .sh⟩]⟩), (4, I 0), (5, I j), (7, I (len ea)), (8, I s.2.2.1)])
  (fun s => At s.2.2.1 s.2.1.length ∧ l = s.2.1 ++ s.1 ∧ ixOf p s.1 (s.2.1.length : Int) = ixOf p l 0) (fun s => s.1.length) (l, [], 0, none) rfl ⟨rfl, rfl, rfl⟩ ?_
 rintro ⟨suf, pre, i, j⟩ ⟨hi, hl', hx⟩ ih
 simp only at hi hl' hx ih
 have hi' : i = (pre.length : Int) := hi
 rw [← hi'] at hx
 cases j <;> cbv <;> (
  cases suf with
  | nil =>
   rw [F.lt_f hi la (by simp [hl'])]; cbv
   rw [← hr, ← hx]; rfl
  | cons x suf =>
   rw [F.lt_t hi la (by simp [hl'])]; cbv
   obtain ⟨e1, he1⟩ := nm (row fI x.body)
   obtain ⟨ix, hix⟩ := nm (pre.length * 2)
   rw [show at' 2 ea i = some (ix, [.int .i64 x.tag, .row () e1]) by rw [hix, he1]; exact F.get hi hea hl' (fun _ => rfl) (by decide)]; cbv
   obtain ⟨v, hv⟩ := nm (p x)
   have c1 : o g [sExt x.tag e1 (.sp 0 1)] = some ⟨[B v], [], none⟩ := by rw [ho, hv, he1]; exact hp x (by rw [hl']; simp)
   rw [hg]; cbv
   rw [c1]; cbv
   have hx1 : ixOf p (x :: suf) i = if p x = true then i else ixOf p suf (i + 1) := rfl
   rw [hx1] at hx
   refine both (fun c => ?_) (fun c => ?_) <;> rw [c] <;> cbv
   ·rw [← hv, if_pos c] at hx
    rw [← hr, ← hx]
   ·rw [← hv, if_neg (by simp [c])] at hx
    refine ih (suf, pre ++ [x], add .i64 i 1, some i) ⟨at_len (F.inc hi (by simp [hl'] at hl; omega)) (by simp), by simp [hl'], ?_⟩ (by simp)
    rw [← hx, hi']
    simp)
theorem ok351_1 (g : Nat) (hg : md g = []) (k0 : V) (p : Ext → Bool) (l : List Ext) (hl : l.length ≤ 1099511627776) (hp : ∀ x ∈ l, fix Tb md g [sExt x.tag (row fI x.body) (.sp 0 1), ⟨.val, [⟨k0, .sh⟩]⟩] = some ⟨[B (p x)], [], none⟩) {f0 : Fl} (h0 : inFl f0 = true) :
  fix Tb md 351 [R (row fExt l) f0, ⟨.val, [⟨.fn g [k0], .sh⟩]⟩] = some ⟨[I (ixOf p l 0)], [], none⟩ := by
 generalize hm : md = m at hg hp ⊢
 refine fix_fn (fn := ir351) tb_351 rfl rfl (by decide) rfl ?_; simp only [shutArgs, shutS, List.map_cons, List.map_nil, ir351, shut_in h0, List.head?_nil, reduceCtorEq, if_false, sExt, sHello, sAnswer, sEdit, sDeal, sBox, sDialed, sKnown]
 generalize hr : (⟨_, [], none⟩ : Ret) = r
 obtain ⟨ea, hea⟩ := nm (row fExt l)
 rw [← hea]
 intro add sub mul arith eq ne lt le gt ge neg conv mn mx not beq len at' ln bd cut app allS isNil mks set o hP F ho
 have la := F.len_at hea
 cbv
 refine loop_ind hP (σ := List Ext × List Ext × Int × Option Int) (fun s => match s.2.2.2 with | none => [(0, R ea .sh), (1, ⟨.val, [⟨.fn g [k0], .sh⟩]⟩), (4, I 0), (7, I (len ea)), (8, I s.2.2.1)] | some j => [(0, R ea .sh), (1, ⟨.val, [⟨.fn g [k0], .sh⟩]⟩), (4, I 0), (5, I j), (7, I (len ea)), (8, I s.2.2.1)])
  (fun s => At s.2.2.1 s.2.1.length ∧ l = s.2.1 ++ s.1 ∧ ixOf p s.1 (s.2.1.length : Int) = ixOf p l 0) (fun s => s.1.length) (l, [], 0, none) rfl ⟨rfl, rfl, rfl⟩ ?_
 rintro ⟨suf, pre, i, j⟩ ⟨hi, hl', hx⟩ ih
 simp only at hi hl' hx ih
 have hi' : i = (pre.length : Int) := hi
 rw [← hi'] at hx
 cases j <;> cbv <;> (
  cases suf with
  | nil =>
   rw [F.lt_f hi la (by simp [hl'])]; cbv
   rw [← hr, ← hx]; rfl
  | cons x suf =>
   rw [F.lt_t hi la (by simp [hl'])]; cbv
   obtain ⟨e1, he1⟩ := nm (row fI x.body)
   obtain ⟨ix, hix⟩ := nm (pre.length * 2)
   rw [show at' 2 ea i = some (ix, [.int .i64 x.tag, .row () e1]) by rw [hix, he1]; exact F.get hi hea hl' (fun _ => rfl) (by decide)]; cbv
   obtain ⟨v, hv⟩ := nm (p x)
   have c1 : o g [sExt x.tag e1 (.sp 0 1), ⟨.val, [⟨k0, .sh⟩]⟩] = some ⟨[B v], [], none⟩ := by rw [ho, hv, he1]; exact hp x (by rw [hl']; simp)
   rw [hg]; cbv
   rw [c1]; cbv
   have hx1 : ixOf p (x :: suf) i = if p x = true then i else ixOf p suf (i + 1) := rfl
   rw [hx1] at hx
   refine both (fun c => ?_) (fun c => ?_) <;> rw [c] <;> cbv
   ·rw [← hv, if_pos c] at hx
    rw [← hr, ← hx]
   ·rw [← hv, if_neg (by simp [c])] at hx
    refine ih (suf, pre ++ [x], add .i64 i 1, some i) ⟨at_len (F.inc hi (by simp [hl'] at hl; omega)) (by simp), by simp [hl'], ?_⟩ (by simp)
    rw [← hx, hi']
    simp)
theorem ok351_2 (g : Nat) (hg : md g = []) (k0 k1 : V) (p : Ext → Bool) (l : List Ext) (hl : l.length ≤ 1099511627776) (hp : ∀ x ∈ l, fix Tb md g [sExt x.tag (row fI x.body) (.sp 0 1), ⟨.val, [⟨k0, .sh⟩]⟩, ⟨.val, [⟨k1, .sh⟩]⟩] = some ⟨[B (p x)], [], none⟩) {f0 : Fl} (h0 : inFl f0 = true) :
  fix Tb md 351 [R (row fExt l) f0, ⟨.val, [⟨.fn g [k0, k1], .sh⟩]⟩] = some ⟨[I (ixOf p l 0)], [], none⟩ := by
 generalize hm : md = m at hg hp ⊢
 refine fix_fn (fn := ir351) tb_351 rfl rfl (by decide) rfl ?_; simp only [shutArgs, shutS, List.map_cons, List.map_nil, ir351, shut_in h0, List.head?_nil, reduceCtorEq, if_false, sExt, sHello, sAnswer, sEdit, sDeal, sBox, sDialed, sKnown]
 generalize hr : (⟨_, [], none⟩ : Ret) = r
 obtain ⟨ea, hea⟩ := nm (row fExt l)
 rw [← hea]
 intro add sub mul arith eq ne lt le gt ge neg conv mn mx not beq len at' ln bd cut app allS isNil mks set o hP F ho
 have la := F.len_at hea
 cbv
 refine loop_ind hP (σ := List Ext × List Ext × Int × Option Int) (fun s => match s.2.2.2 with | none => [(0, R ea .sh), (1, ⟨.val, [⟨.fn g [k0, k1], .sh⟩]⟩), (4, I 0), (7, I (len ea)), (8, I s.2.2.1)] | some j => [(0, R ea .sh), (1, ⟨.val, [⟨.fn g [k0, k1], .sh⟩]⟩), (4, I 0), (5, I j), (7, I (len ea)), (8, I s.2.2.1)])
  (fun s => At s.2.2.1 s.2.1.length ∧ l = s.2.1 ++ s.1 ∧ ixOf p s.1 (s.2.1.length : Int) = ixOf p l 0) (fun s => s.1.length) (l, [], 0, none) rfl ⟨rfl, rfl, rfl⟩ ?_
 rintro ⟨suf, pre, i, j⟩ ⟨hi, hl', hx⟩ ih
 simp only at hi hl' hx ih
 have hi' : i = (pre.length : Int) := hi
 rw [← hi'] at hx
 cases j <;> cbv <;> (
  cases suf with
  | nil =>
   rw [F.lt_f hi la (by simp [hl'])]; cbv
   rw [← hr, ← hx]; rfl
  | cons x suf =>
   rw [F.lt_t hi la (by simp [hl'])]; cbv
   obtain ⟨e1, he1⟩ := nm (row fI x.body)
   obtain ⟨ix, hix⟩ := nm (pre.length * 2)
   rw [show at' 2 ea i = some (ix, [.int .i64 x.tag, .row () e1]) by rw [hix, he1]; exact F.get hi hea hl' (fun _ => rfl) (by decide)]; cbv
   obtain ⟨v, hv⟩ := nm (p x)
   have c1 : o g [sExt x.tag e1 (.sp 0 1), ⟨.val, [⟨k0, .sh⟩]⟩, ⟨.val, [⟨k1, .sh⟩]⟩] = some ⟨[B v], [], none⟩ := by rw [ho, hv, he1]; exact hp x (by rw [hl']; simp)
   rw [hg]; cbv
   rw [c1]; cbv
   have hx1 : ixOf p (x :: suf) i = if p x = true then i else ixOf p suf (i + 1) := rfl
   rw [hx1] at hx
   refine both (fun c => ?_) (fun c => ?_) <;> rw [c] <;> cbv
   ·rw [← hv, if_pos c] at hx
    rw [← hr, ← hx]
   ·rw [← hv, if_neg (by simp [c])] at hx
    refine ih (suf, pre ++ [x], add .i64 i 1, some i) ⟨at_len (F.inc hi (by simp [hl'] at hl; omega)) (by simp), by simp [hl'], ?_⟩ (by simp)
    rw [← hx, hi']
    simp)
theorem ok352 (e : Ext) (t : Int) {f0 : Fl} (h0 : inFl f0 = true) : fix Tb md 352 [sExt e.tag (row fI e.body) f0, ⟨.val, [⟨.ptr () [.int .i64 t], .sh⟩]⟩] = some ⟨[B (tagP t e)], [], none⟩ := by
 generalize hr : (⟨_, [], none⟩ : Ret) = r
 obtain ⟨ey, hey⟩ := nm (row fI e.body)
 rw [← hey]
 refine fix_fn2 (fn := ir352) tb_352 rfl rfl (by decide) rfl ?_; intro Q hQ; simp only [shutArgs, shutS, List.map_cons, List.map_nil, ir352, shut_in h0, List.head?_nil, reduceCtorEq, if_false, sExt, sHello, sAnswer, sEdit, sDeal, sBox, sDialed, sKnown]
 intro add sub mul arith eq ne lt le gt ge neg conv mn mx not beq len at' ln bd cut app allS isNil mks set o hP F ho
 cbv
 rw [hQ]; cbv
 rw [← hr, F.eq]; rfl
theorem ok290 (l : List Ext) (t : Int) (hl : l.length ≤ 1099511627776) {f0 : Fl} (h0 : inFl f0 = true) : fix Tb md 290 [R (row fExt l) f0, I t] = some ⟨[I (extOf l t)], [], none⟩ := by
 obtain ⟨T, hT⟩ := nm (extOf l t)
 rw [← hT]
 generalize hr : (⟨_, [], none⟩ : Ret) = r
 obtain ⟨ea, hea⟩ := nm (row fExt l)
 rw [← hea]
 refine fix_fn2 (fn := ir290) tb_290 rfl rfl (by decide) rfl ?_; intro Q hQ; simp only [shutArgs, shutS, List.map_cons, List.map_nil, ir290, shut_in h0, List.head?_nil, reduceCtorEq, if_false, sExt, sHello, sAnswer, sEdit, sDeal, sBox, sDialed, sKnown]
 intro add sub mul arith eq ne lt le gt ge neg conv mn mx not beq len at' ln bd cut app allS isNil mks set o hP F ho
 have c1 : o 351 [R ea (.sp 0 0), ⟨.val, [⟨.fn 352 [.ptr () [.int .i64 t]], .sh⟩]⟩] = some ⟨[I T], [], none⟩ := by rw [ho, hT, hea]; exact ok351_1 352 rfl _ (tagP t) l hl (fun x _ => ok352 x t rfl) rfl
 cbv
 rw [c1]; cbv
 rw [hQ]; cbv
 exact congrArg some hr
theorem ok258 (l : List Ext) (hl : l.length ≤ 1099511627776) (w : ∀ y ∈ l, y.body.length ≤ 1099511627776) {f0 : Fl} (h0 : inFl f0 = true) : fix Tb md 258 [R (row fExt l) f0] = some ⟨[B (areEx l)], [], none⟩ := by
 obtain ⟨T, hT⟩ := nm (exOk [] l)
 rw [show areEx l = (T && decide (l.length ≤ 6)) by rw [hT]; rfl]
 generalize hr : (⟨_, [], none⟩ : Ret) = r
 obtain ⟨ea, hea⟩ := nm (row fExt l)
 rw [← hea]
 refine fix_fn2 (fn := ir258) tb_258 rfl rfl (by decide) rfl ?_; intro Q hQ; simp only [shutArgs, shutS, List.map_cons, List.map_nil, ir258, shut_in h0, List.head?_nil, reduceCtorEq, if_false, sExt, sHello, sAnswer, sEdit, sDeal, sBox, sDialed, sKnown]
 intro add sub mul arith eq ne lt le gt ge neg conv mn mx not beq len at' ln bd cut app allS isNil mks set o hP F ho
 have la := F.len_at hea
 have h6 : le (len ea) 6 = decide (l.length ≤ 6) := F.le_n la rfl
 cbv
 refine loop_ind2 hP (σ := List Ext × List Ext × Int × Option (Int × Int × List (List V))) (fun s => match s.2.2.2 with
   | none => [(0, R ea .sh), (2, B false), (5, R ea .sh), (6, I (len ea)), (7, I s.2.2.1)]
   | some j => [(0, R ea .sh), (2, B false), (3, I j.1), (4, ⟨.ptr 45 0, []⟩), (5, R ea .sh), (6, I (len ea)), (7, I s.2.2.1), (45, ⟨.box (), [⟨.int .i64 j.2.1, .sc⟩, ⟨.row () j.2.2, .sh⟩]⟩)]) (fun s => At s.2.2.1 s.2.1.length ∧ l = s.2.1 ++ s.1 ∧ exOk s.2.1 s.1 = T) (fun s => s.1.length) (l, [], 0, none) rfl ⟨rfl, rfl, hT.symm⟩ ?_
 intro c1 Q1 hc1 hQ1
 rintro ⟨suf, pre, i, j⟩ ⟨hi, hl', hb⟩ ih
 simp only at hi hl' hb ih
 rcases j with _ | ⟨j3, j4, j5⟩
 all_goals
  cbv
  cases suf with
  | nil =>
   rw [F.lt_f hi la (by simp [hl'])]; cbv
   rw [hQ1]; cbv
   rw [hQ]; cbv
   rw [h6, ← hr, ← hb]; rfl
  | cons x suf =>
   obtain ⟨ix, hix⟩ := nm (pre.length * 2)
   obtain ⟨e1, he1⟩ := nm (row fI x.body)
   have l1 := F.len_at he1
   have hx := w x (by rw [hl']; simp)
   have hpre : pre.length ≤ 1099511627776 := by rw [hl'] at hl; simp at hl; omega
   have p0 : at' 2 ea i = some (ix, [.int .i64 x.tag, .row () e1]) := by rw [hix, he1]; exact F.get hi hea hl' (fun _ => rfl) (by decide)
   obtain ⟨b1, hb1⟩ := nm (inR x.tag 0 255)
   obtain ⟨b2, hb2⟩ := nm (decide (4 < x.body.length))
   obtain ⟨b3, hb3⟩ := nm (bytes x.body)
   obtain ⟨b4, hb4⟩ := nm (pre.any (tagP x.tag))
   obtain ⟨ep, hep⟩ := nm (row fExt pre)
   obtain ⟨v, hv⟩ := nm (extOf pre x.tag)
   have g4 : gt (len e1) 4 = b2 := by rw [hb2]; exact F.gt_n l1 rfl
   have c1 : o 232 [I x.tag, I 0, I 255] = some ⟨[B b1], [], none⟩ := by rw [ho, hb1]; exact ok232 ..
   have c3 : o 233 [R e1 (.sp 0 0), I 0, I 255] = some ⟨[B b3], [], none⟩ := by rw [ho, hb3, he1]; exact ok233 _ _ _ hx rfl
   have c4 : o 290 [R ep (.sp 0 0), I x.tag] = some ⟨[I v], [], none⟩ := by rw [ho, hv, hep]; exact ok290 _ _ hpre rfl
   have g5 : ge v 0 = b4 := by rw [F.ge, hv, hb4]; exact ixOf_ge (tagP x.tag) pre 0 (by decide)
   have hT' : T = (b1 && !b2 && b3 && !b4 && exOk (pre ++ [x]) suf) := by rw [← hb, hb1, hb2, hb3, hb4]; rfl
   obtain ⟨n, hn⟩ := nm (pre.length)
   have q1 : bd (ln ea) i = some n := by rw [F.ln' hea, hn]; exact F.bd' hi (by rw [hl']; simp)
   have q2 : cut 2 ea n 0 = some ep := by rw [F.cut' hea (fun _ => rfl), hep, hl', hn]; simp
   rw [F.lt_t hi la (by simp [hl'])]; cbv
   rw [p0]; cbv
   rw [c1]; cbv
   refine both (fun d1 => ?_) (fun d1 => ?_) <;> rw [d1] <;> cbv
   ·rw [hQ1]; cbv
    rw [hQ]; cbv
    rw [← hr, show T = false by rw [hT', F.not_t d1]; rfl]; rfl
   rw [q1]; cbv
   rw [q2]; cbv
   rw [c4]; cbv
   rw [g5]; cbv
   refine both (fun d4 => ?_) (fun d4 => ?_) <;> rw [d4] <;> cbv
   ·rw [hQ1]; cbv
    rw [hQ]; cbv
    rw [← hr, show T = false by rw [hT', d4]; simp]; rfl
   rw [g4]; cbv
   refine both (fun d2 => ?_) (fun d2 => ?_) <;> rw [d2] <;> cbv
   ·rw [hQ1]; cbv
    rw [hQ]; cbv
    rw [← hr, show T = false by rw [hT', d2]; simp]; rfl
   rw [c3]; cbv
   refine both (fun d3 => ?_) (fun d3 => ?_) <;> rw [d3] <;> cbv
   ·rw [hQ1]; cbv
    rw [hQ]; cbv
    rw [← hr, show T = false by rw [hT', F.not_t d3]; simp]; rfl
   refine ih (suf, pre ++ [x], add .i64 i 1, some (i, x.tag, e1)) ⟨at_len (F.inc hi (by omega)) (by simp), by simp [hl'], ?_⟩ (by simp)
   rw [hT', F.not_f d1, d2, F.not_f d3, d4]; simp
theorem ok113 (h : Hello) (hv : h.versions.length ≤ 1099511627776) (hl : h.exts.length ≤ 1099511627776) (w : ∀ y ∈ h.exts, y.body.length ≤ 1099511627776) {f0 f1 : Fl} (h0 : inFl f0 = true) (h1 : inFl f1 = true) : fix Tb md 113 [sHello (row fI h.versions) (row fExt h.exts) f0 f1] = some ⟨[B (isHel h)], [], none⟩ := by
 obtain ⟨a, ha⟩ := nm (areVer h.versions)
 obtain ⟨b, hb⟩ := nm (areEx h.exts)
 rw [show isHel h = (a && b) by rw [ha, hb]; rfl]
 generalize hr : (⟨_, [], none⟩ : Ret) = r
 obtain ⟨ea, hea⟩ := nm (row fI h.versions)
 obtain ⟨eb, heb⟩ := nm (row fExt h.exts)
 rw [← hea, ← heb]
 refine fix_fn2 (fn := ir113) tb_113 rfl rfl (by decide) rfl ?_; intro Q hQ; simp only [shutArgs, shutS, List.map_cons, List.map_nil, ir113, shut_in h0, shut_in h1, List.head?_nil, reduceCtorEq, if_false, sExt, sHello, sAnswer, sEdit, sDeal, sBox, sDialed, sKnown]
 intro add sub mul arith eq ne lt le gt ge neg conv mn mx not beq len at' ln bd cut app allS isNil mks set o hP F ho
 have c1 : o 255 [R ea (.sp 0 0)] = some ⟨[B a], [], none⟩ := by rw [ho, ha, hea]; exact ok255 _ hv rfl
 have c2 : o 258 [R eb (.sp 0 0)] = some ⟨[B b], [], none⟩ := by rw [ho, hb, heb]; exact ok258 _ hl w rfl
 cbv
 rw [c1]; cbv
 refine both (fun d1 => ?_) (fun d1 => ?_) <;> rw [d1] <;> cbv
 ·rw [c2]; cbv
  rw [hQ]; cbv
  rw [← hr, d1]; rfl
 ·rw [hQ]; cbv
  rw [← hr, d1]; rfl
theorem ok294 (l : List Ext) (hok : areEx l = true) {f0 : Fl} (h0 : inFl f0 = true) : fix Tb md 294 [R (row fExt l) f0] = some ⟨[R (row fI (encX l)) (.ow false), B true], [], none⟩ := by
 obtain ⟨hl, hw⟩ := areEx_all hok
 obtain ⟨et, het⟩ := nm (row fI (encX l))
 rw [← het]
 generalize hr : (⟨_, [], none⟩ : Ret) = r
 obtain ⟨ea, hea⟩ := nm (row fExt l)
 rw [← hea]
 obtain ⟨nl, hnl⟩ := nm ((l.length : Int))
 obtain ⟨e0, he0⟩ := nm (row fI [nl])
 have hen : encX l = nl :: l.flatMap exI := by rw [hnl]; rfl
 refine fix_fn2 (fn := ir294) tb_294 rfl rfl (by decide) rfl ?_; intro Q hQ; simp only [shutArgs, shutS, List.map_cons, List.map_nil, ir294, shut_in h0, List.head?_nil, reduceCtorEq, if_false, sExt, sHello, sAnswer, sEdit, sDeal, sBox, sDialed, sKnown]
 intro add sub mul arith eq ne lt le gt ge neg conv mn mx not beq len at' ln bd cut app allS isNil mks set o hP F ho
 have la := F.len_at hea
 have lna : len ea = nl := by rw [hnl]; exact la
 have la' : At nl l.length := hnl
 have c1 : o 258 [R ea (.sp 0 0)] = some ⟨[B true], [], none⟩ := by rw [ho, hea, ← hok]; exact ok258 _ (by omega) (fun y hy => by have := (hw y hy).1; omega) rfl
 cbv
 rw [c1]; cbv
 rw [show not true = false by rw [F.not]; rfl]; cbv
 rw [lna]
 refine loop_ind2 hP (σ := List Ext × List Ext × List (List V) × Int × Option (Int × List (List V))) (fun s => match s.2.2.2.2 with | none => [(0, R ea .sh), (2, R [] .nl), (3, B false), (4, R s.2.2.1 (.ow false)), (13, R ea .sh), (14, I nl), (15, I s.2.2.2.1)] | some j => [(0, R ea .sh), (2, R [] .nl), (3, B false), (4, R s.2.2.1 (.ow false)), (6, ⟨.ptr 38 0, []⟩), (13, R ea .sh), (14, I nl), (15, I s.2.2.2.1), (38, ⟨.box (), [⟨.int .i64 j.1, .sc⟩, ⟨.row () j.2, .sh⟩]⟩)]) (fun s => At s.2.2.2.1 s.2.1.length ∧ l = s.2.1 ++ s.1 ∧ s.2.2.1 = row fI (nl :: s.2.1.flatMap exI)) (fun s => s.1.length) (l, [], [[.int .i64 nl]], 0, none) rfl ⟨rfl, rfl, rfl⟩ ?_
 intro c1 Q1 hc1 hQ1
 rintro ⟨suf, pre, eo, i, j⟩ ⟨hi, hl', hb⟩ ih
 simp only at hi hl' hb ih
 have hpre : pre.length ≤ 6 := by rw [hl'] at hl; simp at hl; omega
 have hfl : (pre.flatMap exI).length ≤ 36 := by have := exI_len (l := pre) (fun y hy => (hw y (by rw [hl']; simp [hy])).1); omega
 rcases j with _ | ⟨j1, j2⟩
 all_goals
  cbv
  cases suf with
  | nil =>
   rw [F.lt_f hi la' (by simp [hl'])]; cbv
   rw [hQ1]; cbv
   rw [hQ]; cbv
   rw [← hr, het, hb, hen, hl', List.append_nil]
  | cons x suf =>
   obtain ⟨ix, hix⟩ := nm (pre.length * 2)
   obtain ⟨e1, he1⟩ := nm (row fI x.body)
   obtain ⟨nb, hnb⟩ := nm ((x.body.length : Int))
   have hx := (hw x (by rw [hl']; simp)).1
   have hxi : exI x = x.tag :: nb :: x.body := by rw [hnb]; rfl
   have p0 : at' 2 ea i = some (ix, [.int .i64 x.tag, .row () e1]) := by rw [hix, he1]; exact F.get hi hea hl' (fun _ => rfl) (by decide)
   have l1 : len e1 = nb := by rw [hnb]; exact F.len_at he1
   obtain ⟨eo1, heo1⟩ := nm (row fI (nl :: pre.flatMap exI ++ [x.tag, nb]))
   obtain ⟨eo2, heo2⟩ := nm (row fI (nl :: (pre ++ [x]).flatMap exI))
   have q1 : app 1 eo [[.int .i64 x.tag], [.int .i64 nb]] = some eo1 := by
    have h := F.app' (f := fI) (k := 1) (e2 := [[.int .i64 x.tag], [.int .i64 nb]]) (l2 := [x.tag, nb]) hb rfl (fun _ => rfl) (by simp only [List.length_cons, List.length_append, List.length_nil]; omega)
    rw [h, heo1]
   have q2 : app 1 eo1 e1 = some eo2 := by
    have h := F.app' (f := fI) (k := 1) heo1 he1 (fun _ => rfl) (by simp only [List.length_cons, List.length_append, List.length_nil]; omega)
    rw [h, heo2, List.flatMap_append, List.flatMap_cons, hxi]; simp
   have q3 : allS [[.int .i64 x.tag], [.int .i64 nb]] = true := by rw [F.allS]; rfl
   have q4 : allS e1 = true := F.scal he1 (fun _ => rfl)
   rw [F.lt_t hi la' (by simp [hl'])]; cbv
   rw [p0]; cbv
   repeat' (first | (rw [p0]; cbv) | (rw [l1]; cbv) | (rw [q1]; cbv) | (rw [q2]; cbv) | (rw [q3]; cbv) | (rw [q4]; cbv))
   refine ih (suf, pre ++ [x], eo2, add .i64 i 1, some (x.tag, e1)) ⟨at_len (F.inc hi (by omega)) (by simp), by simp [hl'], heo2⟩ (by simp)
theorem ok163 (h : Hello) (mh : h.Mid) {f0 f1 : Fl} (q0 : inFl f0 = true) (q1 : inFl f1 = true) : fix Tb md 163 [sHello (row fI h.versions) (row fExt h.exts) f0 f1] = some ⟨[R (row fI (helB h)) (.ow false)], [], none⟩ ∨ (helB h = [] ∧ fix Tb md 163 [sHello (row fI h.versions) (row fExt h.exts) f0 f1] = some ⟨[R [] .nl], [], none⟩) := by
 have mh' := mh
 unfold Hello.Mid at mh'
 have hvl := mh'.1
 have hxl := mh'.2.1
 have wh : ∀ y ∈ h.exts, y.body.length ≤ 1099511627776 := fun y hy => Nat.le_trans (show y.body.length ≤ 1073741824 from mh'.2.2 y hy) (by decide)
 have k1 := ok113 h (by omega) (by omega) wh (f0 := .sp 0 0) (f1 := .sp 0 1) rfl rfl
 cases hi : isHel h with
 | false =>
  rw [hi] at k1
  have hb : helB h = [] := by unfold helB; rw [hi]; rfl
  refine .inr ⟨hb, ?_⟩
  generalize hr : (⟨_, [], none⟩ : Ret) = r
  obtain ⟨dv, hdv⟩ := nm (row fI h.versions)
  obtain ⟨dx, hdx⟩ := nm (row fExt h.exts)
  rw [← hdv, ← hdx] at k1 ⊢
  refine fix_fn2 (fn := ir163) tb_163 rfl rfl (by decide) rfl ?_; intro Q hQ; simp only [shutArgs, shutS, List.map_cons, List.map_nil, ir163, shut_in q0, shut_in q1, List.head?_nil, reduceCtorEq, if_false, sExt, sHello, sAnswer, sEdit, sDeal, sBox, sDialed, sKnown]
  intro add sub mul arith eq ne lt le gt ge neg conv mn mx not beq len at' ln bd cut app allS isNil mks set o hP F ho
  rw [← ho] at k1
  cbv
  rw [k1]; cbv
  rw [show not false = true by rw [F.not]; rfl]; cbv
  rw [hQ]; cbv
  exact congrArg some hr
 | true =>
  rw [hi] at k1
  have hok := isHel_ex hi
  have hlen := encX_len hok
  have hb : helB h = (h.versions.length : Int) :: h.versions ++ encX h.exts := by unfold helB; rw [hi]; rfl
  refine .inl ?_
  rw [hb]
  obtain ⟨n, hn⟩ := nm ((h.versions.length : Int))
  obtain ⟨et, het⟩ := nm (row fI (n :: h.versions ++ encX h.exts))
  rw [← hn, ← het]
  generalize hr : (⟨_, [], none⟩ : Ret) = r
  obtain ⟨dv, hdv⟩ := nm (row fI h.versions)
  obtain ⟨dx, hdx⟩ := nm (row fExt h.exts)
  rw [← hdv, ← hdx] at k1 ⊢
  obtain ⟨ex, hex⟩ := nm (row fI (encX h.exts))
  refine fix_fn2 (fn := ir163) tb_163 rfl rfl (by decide) rfl ?_; intro Q hQ; simp only [shutArgs, shutS, List.map_cons, List.map_nil, ir163, shut_in q0, shut_in q1, List.head?_nil, reduceCtorEq, if_false, sExt, sHello, sAnswer, sEdit, sDeal, sBox, sDialed, sKnown]
  intro add sub mul arith eq ne lt le gt ge neg conv mn mx not beq len at' ln bd cut app allS isNil mks set o hP F ho
  rw [← ho] at k1
  have c2 : o 294 [R dx (.sp 0 0)] = some ⟨[R ex (.ow false), B true], [], none⟩ := by rw [ho, hdx, hex]; exact ok294 _ hok rfl
  have g1 : len dv = n := by rw [hn]; exact F.len_at hdv
  cbv
  rw [k1]; cbv
  rw [show not true = false by rw [F.not]; rfl]; cbv
  rw [c2]; cbv
  rw [g1]; cbv
  have c3 : o 304 [R [[.row () [[.int .i64 n]]], [.row () dv], [.row () ex]] (.sp 0 0)] = some ⟨[R et (.ow false)], [], none⟩ := by
   rw [ho, het, hdv, hex]
   have := ok304 [[n], h.versions, encX h.exts] (by simp) (by simp; omega) (by simp) (f0 := .sp 0 0) rfl
   simpa [row, fR, fI] using this
  rw [c3]; cbv
  rw [hQ]; cbv
  exact congrArg some hr
theorem ok321 (x : Ext) (w : x.Mid) {f0 : Fl} (q0 : inFl f0 = true) {g0 : Fl} (p0 : inFl g0 = true) :
  fix Tb md 321 [sExt x.tag (row fI x.body) f0, sExt x.tag (row fI x.body) g0] = some ⟨[B true], [], none⟩ := by
 refine fix_fn (fn := ir321) tb_321 rfl rfl (by decide) rfl ?_; simp only [shutArgs, shutS, List.map_cons, List.map_nil, ir321, shut_in q0, shut_in p0, List.head?_nil, reduceCtorEq, if_false, sExt, sHello, sAnswer, sEdit, sDeal, sBox, sDialed, sKnown]
 generalize hr : (⟨_, [], none⟩ : Ret) = r
 obtain ⟨e1, he1⟩ := nm (row fI x.body)
 rw [← he1]
 unfold Ext.Mid at w
 intro add sub mul arith eq ne lt le gt ge neg conv mn mx not beq len at' ln bd cut app allS isNil mks set o hP F ho
 have c1 : o 79 [R e1 (.sp 0 0), R e1 (.sp 1 0)] = some ⟨[B true], [], none⟩ := by rw [ho, he1]; exact ok79t _ (by have := w; omega) rfl rfl
 cbv
 rw [F.ne_f rfl]; cbv
 rw [c1]; cbv
 rw [show not true = false by rw [F.not]; rfl]; cbv
 exact congrArg some hr
theorem ok200 (l : List (Ext)) (w : l.length ≤ 1073741824 ∧ ∀ y ∈ l, y.Mid) {f0 f1 : Fl} (q0 : inFl f0 = true) (q1 : inFl f1 = true) :
  fix Tb md 200 [R (row fExt l) f0, R (row fExt l) f1] = some ⟨[B true], [], none⟩ := by
 have w1 := w.1
 refine fix_fn (fn := ir200) tb_200 rfl rfl (by decide) rfl ?_; simp only [shutArgs, shutS, List.map_cons, List.map_nil, ir200, shut_in q0, shut_in q1, List.head?_nil, reduceCtorEq, if_false, sExt, sHello, sAnswer, sEdit, sDeal, sBox, sDialed, sKnown]
 generalize hr : (⟨_, [], none⟩ : Ret) = r
 obtain ⟨ea, hea⟩ := nm (row fExt l)
 rw [← hea]
 intro add sub mul arith eq ne lt le gt ge neg conv mn mx not beq len at' ln bd cut app allS isNil mks set o hP F ho
 have la := F.len_at hea
 cbv
 rw [F.ne_f rfl]; cbv
 refine loop_ind hP (σ := List (Ext) × List (Ext) × Int) (fun s => [(0, R ea .sh), (1, R ea .sh), (4, B false), (5, I s.2.2)])
  (fun s => At s.2.2 s.2.1.length ∧ l = s.2.1 ++ s.1) (fun s => s.1.length) (l, [], 0) rfl ⟨rfl, rfl⟩ ?_
 rintro ⟨suf, pre, i⟩ ⟨hi, hl'⟩ ih
 simp only at hi hl' ih
 cbv
 cases suf with
 | nil =>
  rw [F.lt_f hi la (by simp [hl'])]; cbv
  exact congrArg some hr
 | cons x suf =>
  rw [F.lt_t hi la (by simp [hl'])]; cbv
  obtain ⟨e1, he1⟩ := nm (row fI x.body)
  obtain ⟨ix, hix⟩ := nm (pre.length * 2)
  have a1 : at' 2 ea i = some (ix, [.int .i64 x.tag, .row () e1]) := by rw [hix, he1]; exact F.get hi hea hl' (fun _ => rfl) (by decide)
  rw [a1]; cbv
  try (rw [a1]; cbv)
  have c1 : o 321 [sExt x.tag e1 (.sp 0 1), sExt x.tag e1 (.sp 1 1)] = some ⟨[B true], [], none⟩ := by rw [ho, he1]; exact ok321 x (w.2 x (by rw [hl']; simp)) rfl rfl
  rw [c1]; cbv
  rw [show not true = false by rw [F.not]; rfl]; cbv
  refine ih (suf, pre ++ [x], add .i64 i 1) ⟨at_len (F.inc hi (by simp [hl'] at w1; omega)) (by simp), by simp [hl']⟩ (by simp)
theorem ok78 (x : Hello) (w : x.Mid) {f0 f1 : Fl} (q0 : inFl f0 = true) (q1 : inFl f1 = true) {g0 g1 : Fl} (p0 : inFl g0 = true) (p1 : inFl g1 = true) :
  fix Tb md 78 [sHello (row fI x.versions) (row fExt x.exts) f0 f1, sHello (row fI x.versions) (row fExt x.exts) g0 g1] = some ⟨[B true], [], none⟩ := by
 refine fix_fn (fn := ir78) tb_78 rfl rfl (by decide) rfl ?_; simp only [shutArgs, shutS, List.map_cons, List.map_nil, ir78, shut_in q0, shut_in q1, shut_in p0, shut_in p1, List.head?_nil, reduceCtorEq, if_false, sExt, sHello, sAnswer, sEdit, sDeal, sBox, sDialed, sKnown]
 generalize hr : (⟨_, [], none⟩ : Ret) = r
 obtain ⟨e1, he1⟩ := nm (row fI x.versions)
 obtain ⟨e2, he2⟩ := nm (row fExt x.exts)
 rw [← he1, ← he2]
 unfold Hello.Mid at w
 intro add sub mul arith eq ne lt le gt ge neg conv mn mx not beq len at' ln bd cut app allS isNil mks set o hP F ho
 have c1 : o 79 [R e1 (.sp 0 0), R e1 (.sp 1 0)] = some ⟨[B true], [], none⟩ := by rw [ho, he1]; exact ok79t _ (by have := w.1; omega) rfl rfl
 have c2 : o 200 [R e2 (.sp 0 0), R e2 (.sp 1 0)] = some ⟨[B true], [], none⟩ := by rw [ho, he2]; exact ok200 _ w.2 rfl rfl
 cbv
 rw [c1]; cbv
 rw [show not true = false by rw [F.not]; rfl]; cbv
 rw [c2]; cbv
 rw [show not true = false by rw [F.not]; rfl]; cbv
 exact congrArg some hr
theorem ok319 (x : Ext) (left : Int) (w : x.Fits) (h1 : 0 ≤ left) (h2 : left ≤ 1048576) {f0 : Fl} (q0 : inFl f0 = true) :
  fix Tb md 319 [sExt x.tag (row fI x.body) f0, I left] = some ⟨[I (szExt x left)], [], none⟩ := by
 refine fix_fn (fn := ir319) tb_319 rfl rfl (by decide) rfl ?_; simp only [shutArgs, shutS, List.map_cons, List.map_nil, ir319, shut_in q0, List.head?_nil, reduceCtorEq, if_false, sExt, sHello, sAnswer, sEdit, sDeal, sBox, sDialed, sKnown]
 obtain ⟨v1, hv1⟩ := nm (sz1 x.body.length left)
 rw [show szExt x left = v1 by rw [hv1]; rfl]
 generalize hr : (⟨_, [], none⟩ : Ret) = r
 obtain ⟨e1, he1⟩ := nm (row fI x.body)
 rw [← he1]
 have g1 : v1 ≤ 1048576 := by rw [hv1]; exact (Sz.of1 x.body.length).up h2
 have l1 : -1 ≤ v1 := by rw [hv1]; exact (Sz.of1 x.body.length).lo _ h2
 unfold Ext.Fits at w
 intro add sub mul arith eq ne lt le gt ge neg conv mn mx not beq len at' ln bd cut app allS isNil mks set o hP F ho
 have c1 : o 227 [R e1 (.sp 0 0), I left] = some ⟨[I v1], [], none⟩ := by rw [ho, hv1, he1]; exact ok227 fI _ _ w.2.1 h1 h2 rfl
 cbv
 rw [c1]; cbv
 refine both (fun d1 => ?_) (fun d1 => ?_) <;> rw [d1] <;> cbv
 ·clear hP c1 ho; simp only [F.lt, decide_eq_true_eq] at d1; clear F; rw [← hr, show v1 = -1 by omega]
 exact congrArg some hr
theorem ok197 (l : List Ext) (left : Int) (w : l.length ≤ 9223372036854775807 ∧ ∀ y ∈ l, y.Fits) (h1 : 0 ≤ left) (h2 : left ≤ 1048576) {f0 : Fl} (q0 : inFl f0 = true) :
  fix Tb md 197 [R (row fExt l) f0, I left] = some ⟨[I (szL szExt l left)], [], none⟩ := by
 have w1 := w.1
 by_cases hl : left - l.length < 0
 ·rw [show szL szExt l left = -1 from szF_neg szExt_Sz l _ (by unfold sz1; rw [if_pos hl])]
  refine fix_fn (fn := ir197) tb_197 rfl rfl (by decide) rfl ?_; simp only [shutArgs, shutS, List.map_cons, List.map_nil, ir197, shut_in q0, List.head?_nil, reduceCtorEq, if_false, sExt, sHello, sAnswer, sEdit, sDeal, sBox, sDialed, sKnown]
  generalize hr : (⟨_, [], none⟩ : Ret) = r
  obtain ⟨ea, hea⟩ := nm (row fExt l)
  rw [← hea]
  intro add sub mul arith eq ne lt le gt ge neg conv mn mx not beq len at' ln bd cut app allS isNil mks set o hP F ho
  have le := F.len_at hea
  unfold At at le
  have hs : lt (sub .i64 left (len ea)) 0 = true := by rw [F.lt, F.sub, le, wrap64 (by omega) (by omega)]; simp; omega
  cbv
  rw [hs]
  cbv
  exact congrArg some hr
 ·have hT : szL szExt l left = l.foldl (fun a x => szExt x a) (left - l.length) := by unfold szL sz1; rw [if_neg hl]
  rw [hT]
  refine fix_fn (fn := ir197) tb_197 rfl rfl (by decide) rfl ?_; simp only [shutArgs, shutS, List.map_cons, List.map_nil, ir197, shut_in q0, List.head?_nil, reduceCtorEq, if_false, sExt, sHello, sAnswer, sEdit, sDeal, sBox, sDialed, sKnown]
  obtain ⟨v, hv⟩ := nm (left - l.length)
  rw [← hv]
  have u3 : 0 ≤ v := by omega
  have u4 : v ≤ 1048576 := by omega
  have u5 : l.length ≤ 1048576 := by omega
  obtain ⟨T, hT⟩ := nm (l.foldl (fun a x => szExt x a) v)
  rw [← hT]
  generalize hr : (⟨_, [], none⟩ : Ret) = r
  obtain ⟨ea, hea⟩ := nm (row fExt l)
  rw [← hea]
  intro add sub mul arith eq ne lt le gt ge neg conv mn mx not beq len at' ln bd cut app allS isNil mks set o hP F ho
  have le := F.len_at hea
  have e1 : sub .i64 left (len ea) = v := by unfold At at le; rw [F.sub, le, wrap64 (by omega) (by omega), hv]
  have hs : lt v 0 = false := by rw [F.lt, hv]; simp; omega
  cbv
  rw [e1, hs]
  cbv
  refine loop_ind hP (σ := List (Ext) × List (Ext) × Int × Int) (fun s => [(0, R ea .sh), (1, I s.2.2.1), (4, I 0), (5, I s.2.2.2)])
   (fun s => At s.2.2.2 s.2.1.length ∧ l = s.2.1 ++ s.1 ∧ 0 ≤ s.2.2.1 ∧ s.2.2.1 ≤ 1048576 ∧ s.1.foldl (fun a x => szExt x a) s.2.2.1 = T) (fun s => s.1.length) (l, [], v, 0) rfl ⟨rfl, rfl, u3, u4, hT.symm⟩ ?_
  rintro ⟨suf, pre, a, i⟩ ⟨hi, hl', ha0, ha1, hf⟩ ih
  simp only at hi hl' ha0 ha1 hf ih
  cbv
  cases suf with
  | nil =>
   rw [F.lt_f hi le (by simp [hl'])]; cbv
   simp only [List.foldl_nil] at hf
   rw [← hr, hf]
  | cons x suf =>
   rw [F.lt_t hi le (by simp [hl'])]; cbv
   rw [List.foldl_cons] at hf
   obtain ⟨e1, he1⟩ := nm (row fI x.body)
   obtain ⟨ix, hix⟩ := nm (pre.length * 2)
   rw [show at' 2 ea i = some (ix, [.int .i64 x.tag, .row () e1]) by rw [hix, he1]; exact F.get hi hea hl' (fun _ => rfl) (by decide)]; cbv
   obtain ⟨a', ha'⟩ := nm (szExt x a)
   rw [← ha'] at hf
   have u1 : a' ≤ 1048576 := by rw [ha']; exact (szExt_Sz x).up ha1
   have u2 : -1 ≤ a' := by rw [ha']; exact (szExt_Sz x).lo _ ha1
   have c1 : o 319 [sExt x.tag e1 (.sp 0 1), I a] = some ⟨[I a'], [], none⟩ := by rw [ho, ha', he1]; exact ok319 x a (w.2 x (by rw [hl']; simp)) ha0 ha1 rfl
   rw [c1]; cbv
   refine both (fun c => ?_) (fun c => ?_) <;> rw [c] <;> cbv
   ·simp only [F.lt, decide_eq_true_eq] at c
    rw [← hr, ← hf, szF_neg szExt_Sz suf a' (by omega)]
   ·simp only [F.lt, decide_eq_false_iff_not] at c
    refine ih (suf, pre ++ [x], a', add .i64 i 1) ⟨at_len (F.inc hi (by simp [hl'] at u5; omega)) (by simp), by simp [hl'], by simp only; omega, u1, hf⟩ (by simp)
theorem ok83 (x : Hello) (left : Int) (w : x.Fits) (h1 : 0 ≤ left) (h2 : left ≤ 1048576) {f0 f1 : Fl} (q0 : inFl f0 = true) (q1 : inFl f1 = true) :
  fix Tb md 83 [sHello (row fI x.versions) (row fExt x.exts) f0 f1, I left] = some ⟨[I (szHello x left)], [], none⟩ := by
 refine fix_fn (fn := ir83) tb_83 rfl rfl (by decide) rfl ?_; simp only [shutArgs, shutS, List.map_cons, List.map_nil, ir83, shut_in q0, shut_in q1, List.head?_nil, reduceCtorEq, if_false, sExt, sHello, sAnswer, sEdit, sDeal, sBox, sDialed, sKnown]
 obtain ⟨v1, hv1⟩ := nm (sz1 x.versions.length left)
 obtain ⟨v2, hv2⟩ := nm (szL szExt x.exts v1)
 rw [show szHello x left = v2 by rw [hv2, hv1]; rfl]
 generalize hr : (⟨_, [], none⟩ : Ret) = r
 obtain ⟨e1, he1⟩ := nm (row fI x.versions)
 obtain ⟨e2, he2⟩ := nm (row fExt x.exts)
 rw [← he1, ← he2]
 have g1 : v1 ≤ 1048576 := by rw [hv1]; exact (Sz.of1 x.versions.length).up h2
 have l1 : -1 ≤ v1 := by rw [hv1]; exact (Sz.of1 x.versions.length).lo _ h2
 have g2 : v2 ≤ 1048576 := by rw [hv2]; exact (Sz.list szExt_Sz x.exts).up g1
 have l2 : -1 ≤ v2 := by rw [hv2]; exact (Sz.list szExt_Sz x.exts).lo _ g1
 have n2 : v1 < 0 → v2 = -1 := fun q => by rw [hv2]; exact (Sz.list szExt_Sz x.exts).neg _ q
 unfold Hello.Fits at w
 intro add sub mul arith eq ne lt le gt ge neg conv mn mx not beq len at' ln bd cut app allS isNil mks set o hP F ho
 have c1 : o 227 [R e1 (.sp 0 0), I left] = some ⟨[I v1], [], none⟩ := by rw [ho, hv1, he1]; exact ok227 fI _ _ w.1.1 h1 h2 rfl
 have c2 : 0 ≤ v1 → o 197 [R e2 (.sp 0 0), I v1] = some ⟨[I v2], [], none⟩ := by intro q; rw [ho, hv2, he2]; exact ok197 _ _ w.2 q g1 rfl
 cbv
 rw [c1]; cbv
 refine both (fun d1 => ?_) (fun d1 => ?_) <;> rw [d1] <;> cbv
 ·clear hP c1 c2 ho; simp only [F.lt, decide_eq_true_eq] at d1; clear F; rw [← hr, show v2 = -1 by omega]
 rw [c2 (by simp only [F.lt, decide_eq_false_iff_not] at d1; omega)]; cbv
 refine both (fun d2 => ?_) (fun d2 => ?_) <;> rw [d2] <;> cbv
 ·clear hP c1 c2 ho; simp only [F.lt, decide_eq_true_eq] at d2; clear F; rw [← hr, show v2 = -1 by omega]
 exact congrArg some hr
theorem ok320 (x : Ext) (w : x.Mid) {f0 : Fl} (q0 : inFl f0 = true) :
  fix Tb md 320 [sExt x.tag (row fI x.body) f0] = some ⟨[sExt x.tag (row fI x.body) (.ow false)], [], none⟩ := by
 refine fix_fn (fn := ir320) tb_320 rfl rfl (by decide) rfl ?_; simp only [shutArgs, shutS, List.map_cons, List.map_nil, ir320, shut_in q0, List.head?_nil, reduceCtorEq, if_false, sExt, sHello, sAnswer, sEdit, sDeal, sBox, sDialed, sKnown]
 generalize hr : (⟨_, [], none⟩ : Ret) = r
 obtain ⟨e1, he1⟩ := nm (row fI x.body)
 rw [← he1] at hr ⊢
 unfold Ext.Mid at w
 intro add sub mul arith eq ne lt le gt ge neg conv mn mx not beq len at' ln bd cut app allS isNil mks set o hP F ho
 have c1 : o 76 [R e1 (.sp 0 0)] = some ⟨[R e1 (.ow false)], [], none⟩ := by rw [ho, he1]; exact ok76 _ (by have := w; omega) rfl
 cbv
 rw [c1]; cbv
 exact congrArg some hr
theorem ok199 (l : List (Ext)) (w : l.length ≤ 1073741824 ∧ ∀ y ∈ l, y.Mid) {f0 : Fl} (q0 : inFl f0 = true) :
  fix Tb md 199 [R (row fExt l) f0] = some ⟨[R (row fExt l) (.ow false)], [], none⟩ := by
 have w1 := w.1
 refine fix_fn (fn := ir199) tb_199 rfl rfl (by decide) rfl ?_; simp only [shutArgs, shutS, List.map_cons, List.map_nil, ir199, shut_in q0, List.head?_nil, reduceCtorEq, if_false, sExt, sHello, sAnswer, sEdit, sDeal, sBox, sDialed, sKnown]
 generalize hr : (⟨_, [], none⟩ : Ret) = r
 obtain ⟨ea, hea⟩ := nm (row fExt l)
 rw [← hea] at hr ⊢
 intro add sub mul arith eq ne lt le gt ge neg conv mn mx not beq len at' ln bd cut app allS isNil mks set o hP F ho
 have la := F.len_at hea
 cbv
 obtain ⟨e0, he0⟩ := nm (row fExt (List.replicate l.length (⟨0, []⟩ : Ext)))
 rw [show mks [.int .i64 0, .row () []] (len ea) (len ea) = some e0 by rw [F.mks, show len ea = _ from la, he0]; exact row_mk (f := fExt) (a := (⟨0, []⟩ : Ext)) rfl (by simp [fExt]) (show l.length ≤ 1099511627776 by omega)]; cbv
 refine loop_ind hP (σ := List (Ext) × List (Ext) × List (List V) × Int) (fun s => [(0, R ea .sh), (2, R [] .nl), (3, R s.2.2.1 (.ow false)), (4, I s.2.2.2)])
  (fun s => At s.2.2.2 s.2.1.length ∧ l = s.2.1 ++ s.1 ∧ s.2.2.1 = row fExt (s.2.1 ++ List.replicate s.1.length (⟨0, []⟩ : Ext))) (fun s => s.1.length) (l, [], e0, 0) rfl ⟨rfl, rfl, by simpa using he0⟩ ?_
 rintro ⟨suf, pre, eo, i⟩ ⟨hi, hl', heo⟩ ih
 simp only at hi hl' heo ih
 cbv
 cases suf with
 | nil =>
  rw [F.lt_f hi la (by simp [hl'])]; cbv
  rw [← hr, heo, hea, hl']; simp
 | cons x suf =>
  rw [F.lt_t hi la (by simp [hl'])]; cbv
  obtain ⟨e1, he1⟩ := nm (row fI x.body)
  obtain ⟨ix, hix⟩ := nm (pre.length * 2)
  rw [show at' 2 ea i = some (ix, [.int .i64 x.tag, .row () e1]) by rw [hix, he1]; exact F.get hi hea hl' (fun _ => rfl) (by decide)]; cbv
  have c1 : o 320 [sExt x.tag e1 (.sp 0 1)] = some ⟨[sExt x.tag e1 (.ow false)], [], none⟩ := by rw [ho, he1]; exact ok320 x (w.2 x (by rw [hl']; simp)) rfl
  rw [c1]; cbv
  rw [show at' 2 eo i = some (ix, [.int .i64 0, .row () []]) by rw [hix]; exact F.get hi heo rfl (fun _ => rfl) (by decide)]; cbv
  obtain ⟨eo', heo'⟩ := nm (row fExt (pre ++ x :: List.replicate suf.length (⟨0, []⟩ : Ext)))
  rw [show set eo ix [.int .i64 x.tag, .row () e1] = some eo' by rw [F.set, heo, hix, heo', he1]; exact set_all (fun _ => rfl) rfl]; cbv
  refine ih (suf, pre ++ [x], eo', add .i64 i 1) ⟨at_len (F.inc hi (by simp [hl'] at w1; omega)) (by simp), by simp [hl'], by simp [heo']⟩ (by simp)
theorem ok85 (x : Hello) (w : x.Mid) {f0 f1 : Fl} (q0 : inFl f0 = true) (q1 : inFl f1 = true) :
  fix Tb md 85 [sHello (row fI x.versions) (row fExt x.exts) f0 f1] = some ⟨[sHello (row fI x.versions) (row fExt x.exts) (.ow false) (.ow false)], [], none⟩ := by
 refine fix_fn (fn := ir85) tb_85 rfl rfl (by decide) rfl ?_; simp only [shutArgs, shutS, List.map_cons, List.map_nil, ir85, shut_in q0, shut_in q1, List.head?_nil, reduceCtorEq, if_false, sExt, sHello, sAnswer, sEdit, sDeal, sBox, sDialed, sKnown]
 generalize hr : (⟨_, [], none⟩ : Ret) = r
 obtain ⟨e1, he1⟩ := nm (row fI x.versions)
 obtain ⟨e2, he2⟩ := nm (row fExt x.exts)
 rw [← he1, ← he2] at hr ⊢
 unfold Hello.Mid at w
 intro add sub mul arith eq ne lt le gt ge neg conv mn mx not beq len at' ln bd cut app allS isNil mks set o hP F ho
 have c1 : o 76 [R e1 (.sp 0 0)] = some ⟨[R e1 (.ow false)], [], none⟩ := by rw [ho, he1]; exact ok76 _ (by have := w.1; omega) rfl
 have c2 : o 199 [R e2 (.sp 0 0)] = some ⟨[R e2 (.ow false)], [], none⟩ := by rw [ho, he2]; exact ok199 _ w.2 rfl
 cbv
 rw [c1]; cbv
 rw [c2]; cbv
 exact congrArg some hr
end Go.Vm
