/- What the functions answer. -/
import Derived.Test.YtijojkfdbpiimaaGreatGCTab
import Derived.Test.YtijojkfdbpiimaaGreatGCFA
import Derived.Test.YtijojkfdbpiimaaGreatGCFB
import Derived.Test.YtijojkfdbpiimaaGreatGCFC
import Derived.Test.YtijojkfdbpiimaaGreatGCFD
import Derived.Test.YtijojkfdbpiimaaGreatGCFE
set_option maxHeartbeats 4000000
set_option maxRecDepth 10000
set_option linter.unusedVariables false
set_option linter.unusedSimpArgs false
namespace Go.Vm
theorem ok121 (l : List (List Int)) (w : l.length ≤ 1048576 ∧ ∀ y ∈ l, y.length ≤ 1048576) {f0 : Fl} (h0 : inFl f0 = true) : fix Tb md 121 [R (row fR l) f0] = some ⟨[I (thash l)], [], none⟩ := by
 have w1 := w.1
 obtain ⟨T, hT⟩ := nm (thash l)
 rw [← hT]
 generalize hr : (⟨_, [], none⟩ : Ret) = r
 obtain ⟨ea, hea⟩ := nm (row fR l)
 rw [← hea]
 obtain ⟨u, hu⟩ := nm (isTr l)
 refine fix_fn2 (fn := ir121) tb_121 rfl rfl (by decide) rfl ?_; intro Q hQ; simp only [shutArgs, shutS, List.map_cons, List.map_nil, ir121, shut_in h0, List.head?_nil, reduceCtorEq, if_false, sExt, sHello, sAnswer, sEdit, sDeal, sBox, sDialed, sKnown]
 intro add sub mul arith eq ne lt le gt ge neg conv mn mx not beq len at' ln bd cut app allS isNil mks set o hP F ho
 have la := F.len_at hea
 have c1 : o 73 [R ea (.sp 0 0)] = some ⟨[B u], [], none⟩ := by rw [ho, hu, hea]; exact ok73 _ w rfl
 cbv
 rw [c1]; cbv
 refine both (fun d1 => ?_) (fun d1 => ?_) <;> rw [d1] <;> cbv
 ·rw [hQ]; cbv
  rw [← hr, hT]; unfold thash; rw [← hu, F.not_t d1]; rfl
 have hT' : T = l.foldl hcons 1 := by rw [hT]; unfold thash; rw [← hu, F.not_f d1]; rfl
 refine loop_ind2 hP (σ := List (List Int) × List (List Int) × Int × Int × Option (List (List V))) (fun s => match s.2.2.2.2 with
   | none => [(0, R ea .sh), (2, I 0), (3, I s.2.2.1), (9, R ea .sh), (10, I (len ea)), (11, I s.2.2.2.1)]
   | some j => [(0, R ea .sh), (2, I 0), (3, I s.2.2.1), (5, R j .sh), (9, R ea .sh), (10, I (len ea)), (11, I s.2.2.2.1)]) (fun s => At s.2.2.2.1 s.2.1.length ∧ l = s.2.1 ++ s.1 ∧ s.1.foldl hcons s.2.2.1 = T) (fun s => s.1.length) (l, [], 1, 0, none) rfl ⟨rfl, rfl, hT'.symm⟩ ?_
 intro c1 Q1 hc1 hQ1
 rintro ⟨suf, pre, d, i, j⟩ ⟨hi, hl', hb⟩ ih
 simp only at hi hl' hb ih
 rcases j with _ | _
 all_goals
  cbv
  cases suf with
  | nil =>
   rw [F.lt_f hi la (by simp [hl'])]; cbv
   rw [hQ1]; cbv
   rw [hQ]; cbv
   rw [← hr, ← hb]; rfl
  | cons x suf =>
   have hx := w.2 x (by rw [hl']; simp)
   rw [List.foldl_cons] at hb
   obtain ⟨nx, hnx⟩ := nm ((x.length : Int))
   have hc : hcons d x = hashV (d :: nx :: x) := by rw [hnx]; rfl
   rw [F.lt_t hi la (by simp [hl'])]; cbv
   obtain ⟨ix, hix⟩ := nm (pre.length * 1)
   obtain ⟨e1, he1⟩ := nm (row fI x)
   have l1 : len e1 = nx := by rw [hnx]; exact F.len_at he1
   have p0 : at' 1 ea i = some (ix, [.row () e1]) := by rw [hix, he1]; exact F.get hi hea hl' (fun _ => rfl) (by decide)
   rw [p0]; cbv
   try (rw [show allS e1 = true from F.scal he1 (fun _ => rfl)])
   try (rw [l1])
   cbv
   obtain ⟨e2, he2⟩ := nm (row fI (d :: nx :: x))
   rw [show app 1 [[.int .i64 d], [.int .i64 nx]] e1 = some e2 by rw [F.app' (f := fI) (e1 := [[.int .i64 d], [.int .i64 nx]]) (l1 := [d, nx]) rfl he1 (fun _ => rfl) (by simp; omega), he2]; rfl]; cbv
   obtain ⟨d', hd'⟩ := nm (hcons d x)
   rw [show o 269 [R e2 (.sp 0 0)] = some ⟨[I d'], [], none⟩ by rw [ho, hd', hc, he2]; exact ok269 _ (by simp; omega) rfl]; cbv
   rw [← hd'] at hb
   refine ih (suf, pre ++ [x], d', add .i64 i 1, some e1) ⟨at_len (F.inc hi (by simp [hl'] at w1; omega)) (by simp), by simp [hl'], hb⟩ (by simp)
theorem ok355 (n : Int) (h0 : 0 < n) (h1 : n ≤ 1099511627776) : fix Tb md 355 [R [] .nl, I n] = some ⟨[R [] (.ow true)], [], none⟩ := by
 refine fix_special tb_355 (by decide) ?_
 show special 2 [⟨.val, [⟨.row () [], .nl⟩]⟩, ⟨.val, [⟨.int .i64 n, .sc⟩]⟩] = _
 have h2 : 0 < n ∧ n ≤ (lim : Int) := ⟨h0, by simpa [lim] using h1⟩
 simp only [special, h2, and_self, if_true]
theorem ok304 (ls : List (List Int)) (h1 : ls.length ≤ 1099511627776) (h2 : ls.flatten.length ≤ 1099511627776) (h3 : ls.flatten ≠ []) {f0 : Fl} (q0 : inFl f0 = true) : fix Tb md 304 [R (row fR ls) f0] = some ⟨[R (row fI ls.flatten) (.ow false)], [], none⟩ := by
 obtain ⟨et, het⟩ := nm (row fI ls.flatten)
 rw [← het]
 generalize hr : (⟨_, [], none⟩ : Ret) = r
 have h4 : 0 < ls.flatten.length := List.length_pos_iff.2 h3
 obtain ⟨N, hN⟩ := nm (ls.flatten.length)
 rw [← hN] at h2 h4
 obtain ⟨ea, hea⟩ := nm (row fR ls)
 rw [← hea]
 refine fix_fn2 (fn := ir304) tb_304 rfl rfl (by decide) rfl ?_; intro Q hQ; simp only [shutArgs, shutS, List.map_cons, List.map_nil, ir304, shut_in q0, List.head?_nil, reduceCtorEq, if_false, sExt, sHello, sAnswer, sEdit, sDeal, sBox, sDialed, sKnown]
 intro add sub mul arith eq ne lt le gt ge neg conv mn mx not beq len at' ln bd cut app allS isNil mks set o hP F ho
 have la := F.len_at hea
 cbv
 refine loop_ind2 hP (σ := List (List Int) × List (List Int) × Int × Int × Option (List (List V))) (fun s => match s.2.2.2.2 with
  | none => [(0, R ea .sh), (2, R [] .nl), (3, I s.2.2.1), (9, R ea .sh), (10, I (len ea)), (11, I s.2.2.2.1)]
  | some j => [(0, R ea .sh), (2, R [] .nl), (3, I s.2.2.1), (5, R j .sh), (9, R ea .sh), (10, I (len ea)), (11, I s.2.2.2.1)]) (fun s => At s.2.2.2.1 s.2.1.length ∧ ls = s.2.1 ++ s.1 ∧ At s.2.2.1 s.2.1.flatten.length ∧ (s.2.2.2.2 = none → s.2.1 = [])) (fun s => s.1.length) (ls, [], 0, 0, none) rfl ⟨rfl, rfl, rfl, fun _ => rfl⟩ ?_
 intro c9 Q1 hc9 hQ1
 rintro ⟨suf, pre, n, i, j⟩ ⟨hi, hl', hb, hj⟩ ih
 simp only at hi hl' hb hj ih
 cases suf with
 | nil =>
  have hpp : ls = pre := by rw [hl', List.append_nil]
  cases j with
  | none => exfalso; have := hj rfl; rw [this] at hpp; rw [hpp] at hN; simp at hN; omega
  | some je =>
   cbv
   rw [F.lt_f hi la (by simp [hl'])]; cbv
   rw [hQ1]; cbv
   have hn1 : 0 < n ∧ n ≤ 1099511627776 := by unfold At at hb; rw [← hpp, ← hN] at hb; omega
   have c1 : o 355 [R [] .nl, I n] = some ⟨[R [] (.ow true)], [], none⟩ := by rw [ho]; exact ok355 n hn1.1 hn1.2
   rw [c1]; cbv
   clear ih hj hQ1 hc9
   refine loop_ind2 hP (σ := List (List Int) × List (List Int) × List (List V) × Int × Option (List (List V) × Bool)) (fun s => match s.2.2.2.2 with
    | none => [(0, R ea .sh), (2, R [] .nl), (3, I n), (5, R je .sh), (6, R s.2.2.1 (.ow true)), (9, R ea .sh), (10, I (len ea)), (11, I i), (25, R ea .sh), (26, I (len ea)), (27, I s.2.2.2.1)]
    | some (k, true) => [(0, R ea .sh), (2, R [] .nl), (3, I n), (5, R je .sh), (6, R s.2.2.1 (.ow true)), (8, R k .sh), (9, R ea .sh), (10, I (len ea)), (11, I i), (25, R ea .sh), (26, I (len ea)), (27, I s.2.2.2.1)]
    | some (k, false) => [(0, R ea .sh), (2, R [] .nl), (3, I n), (5, R je .sh), (6, R s.2.2.1 (.ow false)), (8, R k .sh), (9, R ea .sh), (10, I (len ea)), (11, I i), (25, R ea .sh), (26, I (len ea)), (27, I s.2.2.2.1)]) (fun s => At s.2.2.2.1 s.2.1.length ∧ ls = s.2.1 ++ s.1 ∧ s.2.2.1 = row fI s.2.1.flatten ∧ (match s.2.2.2.2 with | some (_, false) => True | _ => s.2.1.flatten = [])) (fun s => s.1.length) (ls, [], [], 0, none) rfl ⟨rfl, rfl, rfl, rfl⟩ ?_
   intro c8 Q2 hc8 hQ2
   rintro ⟨suf, pre, eo, m, k⟩ ⟨hm, hk', he, hg⟩ ih
   simp only at hm hk' he hg ih
   rcases k with _ | ⟨kk, _ | _⟩
   all_goals
    simp only at hg
    cases suf with
    | nil =>
     have hp2 : ls = pre := by rw [hk', List.append_nil]
     first
      | (exfalso; rw [hp2, hg] at hN; simp at hN; omega)
      | (cbv
         rw [F.lt_f hm la (by simp [hk'])]; cbv
         rw [hQ2]; cbv
         rw [hQ]; cbv
         rw [← hr, het, he, hp2])
    | cons x suf =>
     have hpl : pre.flatten.length + x.length ≤ 1099511627776 := by
      have : ls.flatten.length = pre.flatten.length + (x.length + suf.flatten.length) := by rw [hk']; simp
      omega
     have hpr : pre.length < ls.length := by rw [hk']; simp
     obtain ⟨ix, hix⟩ := nm (pre.length * 1)
     obtain ⟨e1, he1⟩ := nm (row fI x)
     have p0 : at' 1 ea m = some (ix, [.row () e1]) := by rw [hix, he1]; exact F.get hm hea hk' (fun _ => rfl) (by decide)
     have p1 : allS e1 = true := F.scal he1 (fun _ => rfl)
     have p3 : isNil e1 = x.isEmpty := F.nil he1
     obtain ⟨eo', heo'⟩ := nm (row fI (pre ++ [x]).flatten)
     have p2 : app 1 eo e1 = some eo' := by
      rw [heo']
      have := F.app' (k := 1) he he1 (fun _ => rfl) hpl
      rw [this]; simp
     have hm' : At (add .i64 m 1) (pre ++ [x]).length := at_len (F.inc hm (by omega)) (by simp)
     have hk2 : ls = (pre ++ [x]) ++ suf := by rw [hk']; simp
     cbv
     rw [F.lt_t hm la (by simp [hk'])]; cbv
     rw [p0]; cbv
     rw [p1]; cbv
     rw [p2]; cbv
     first
      | (refine ih (suf, pre ++ [x], eo', add .i64 m 1, some (e1, false)) ⟨hm', hk2, heo', trivial⟩ (by simp))
      | (rw [p1]; cbv
         rw [p3]
         cases x with
         | nil => cbv; exact ih (suf, pre ++ [[]], eo', add .i64 m 1, some (e1, true)) ⟨hm', hk2, heo', by simp only; rw [List.flatten_append, hg]; rfl⟩ (by simp)
         | cons a x => cbv; exact ih (suf, pre ++ [a :: x], eo', add .i64 m 1, some (e1, false)) ⟨hm', hk2, heo', trivial⟩ (by simp))
 | cons x suf =>
  have hpl : pre.flatten.length + x.length ≤ 1099511627776 := by
   have : ls.flatten.length = pre.flatten.length + (x.length + suf.flatten.length) := by rw [hl']; simp
   omega
  have hpr : pre.length < ls.length := by rw [hl']; simp
  obtain ⟨ix, hix⟩ := nm (pre.length * 1)
  obtain ⟨e1, he1⟩ := nm (row fI x)
  have lx := F.len_at he1
  have p0 : at' 1 ea i = some (ix, [.row () e1]) := by rw [hix, he1]; exact F.get hi hea hl' (fun _ => rfl) (by decide)
  have hb' : At (add .i64 n (len e1)) (pre ++ [x]).flatten.length := by
   unfold At at *
   rw [F.add, hb, lx, wrap64 (by omega) (by omega)]; simp
  have g1 : lt (add .i64 n (len e1)) 0 = false := F.lt_f hb' at0 (Nat.zero_le _)
  have hi' : At (add .i64 i 1) (pre ++ [x]).length := at_len (F.inc hi (by omega)) (by simp)
  have hl2 : ls = (pre ++ [x]) ++ suf := by rw [hl']; simp
  rcases j with _ | _
  all_goals
   cbv
   rw [F.lt_t hi la (by simp [hl'])]; cbv
   rw [p0]; cbv
   rw [g1]; cbv
   exact ih (suf, pre ++ [x], add .i64 n (len e1), add .i64 i 1, some e1) ⟨hi', hl2, hb', by simp⟩ (by simp)
theorem ok284 (k : Int) (l : List Int) (hl : l.length ≤ 1073741824) {f0 : Fl} (q0 : inFl f0 = true) : fix Tb md 284 [I k, R (row fI l) f0] = some ⟨[I (khash k l)], [], none⟩ := by
 obtain ⟨T, hT⟩ := nm (khash k l)
 rw [← hT]
 generalize hr : (⟨_, [], none⟩ : Ret) = r
 obtain ⟨ea, hea⟩ := nm (row fI l)
 rw [← hea]
 obtain ⟨e2, he2⟩ := nm (row fI (k :: l ++ [k]))
 refine fix_fn2 (fn := ir284) tb_284 rfl rfl (by decide) rfl ?_; intro Q hQ; simp only [shutArgs, shutS, List.map_cons, List.map_nil, ir284, shut_in q0, List.head?_nil, reduceCtorEq, if_false, sExt, sHello, sAnswer, sEdit, sDeal, sBox, sDialed, sKnown]
 intro add sub mul arith eq ne lt le gt ge neg conv mn mx not beq len at' ln bd cut app allS isNil mks set o hP F ho
 have c0 : o 304 [R [[.row () [[.int .i64 k]]], [.row () ea], [.row () [[.int .i64 k]]]] (.sp 0 0)] = some ⟨[R e2 (.ow false)], [], none⟩ := by
  rw [ho, he2, hea]
  have := ok304 [[k], l, [k]] (by simp) (by simp; omega) (by simp) (f0 := .sp 0 0) rfl
  simpa [row, fR, fI] using this
 have c1 : o 269 [R e2 (.sp 0 0)] = some ⟨[I T], [], none⟩ := by rw [ho, he2, hT]; exact ok269 _ (by simp; omega) rfl
 cbv
 rw [c0]; cbv
 rw [c1]; cbv
 rw [hQ]; cbv
 exact congrArg some hr
theorem ok144 (k : Int) (l : List (List Int)) (s : Int) (w : l.length ≤ 1048576 ∧ ∀ y ∈ l, y.length ≤ 1048576) {f0 : Fl} (q0 : inFl f0 = true) : fix Tb md 144 [I k, R (row fR l) f0, I s] = some ⟨[I (finV k l s)], [], none⟩ := by
 obtain ⟨a, ha⟩ := nm (vKey k)
 obtain ⟨b, hb⟩ := nm (isTr l)
 obtain ⟨c, hc⟩ := nm (inR s 0 1)
 obtain ⟨n, hn⟩ := nm (thash l)
 obtain ⟨m, hm⟩ := nm (khash k [s, n])
 rw [show finV k l s = if a && b && c then m else 0 by rw [ha, hb, hc, hm, hn]; rfl]
 generalize hr : (⟨_, [], none⟩ : Ret) = r
 obtain ⟨el, hel⟩ := nm (row fR l)
 rw [← hel]
 refine fix_fn2 (fn := ir144) tb_144 rfl rfl (by decide) rfl ?_; intro Q hQ; simp only [shutArgs, shutS, List.map_cons, List.map_nil, ir144, shut_in q0, List.head?_nil, reduceCtorEq, if_false, sExt, sHello, sAnswer, sEdit, sDeal, sBox, sDialed, sKnown]
 intro add sub mul arith eq ne lt le gt ge neg conv mn mx not beq len at' ln bd cut app allS isNil mks set o hP F ho
 have c1 : o 114 [I k] = some ⟨[B a], [], none⟩ := by rw [ho, ha]; exact ok114 ..
 have c2 : o 73 [R el (.sp 0 0)] = some ⟨[B b], [], none⟩ := by rw [ho, hb, hel]; exact ok73 _ w rfl
 have c3 : o 232 [I s, I 0, I 1] = some ⟨[B c], [], none⟩ := by rw [ho, hc]; exact ok232 ..
 have c4 : o 121 [R el (.sp 0 0)] = some ⟨[I n], [], none⟩ := by rw [ho, hn, hel]; exact ok121 _ w rfl
 have c5 : o 284 [I k, R [[.int .i64 s], [.int .i64 n]] (.sp 1 0)] = some ⟨[I m], [], none⟩ := by rw [ho, hm]; exact ok284 k [s, n] (by simp) rfl
 cbv
 rw [c1]; cbv
 refine both (fun d1 => ?_) (fun d1 => ?_) <;> rw [d1] <;> cbv
 ·rw [hQ]; cbv
  rw [← hr, F.not_t d1]; rfl
 rw [c2]; cbv
 refine both (fun d2 => ?_) (fun d2 => ?_) <;> rw [d2] <;> cbv
 ·rw [hQ]; cbv
  rw [← hr, F.not_f d1, F.not_t d2]; rfl
 rw [c3]; cbv
 refine both (fun d3 => ?_) (fun d3 => ?_) <;> rw [d3] <;> cbv
 ·rw [hQ]; cbv
  rw [← hr, F.not_f d1, F.not_f d2, F.not_t d3]; rfl
 rw [c4]; cbv
 rw [c5]; cbv
 rw [hQ]; cbv
 rw [← hr, F.not_f d1, F.not_f d2, F.not_f d3]; rfl
theorem ok146 (k : Int) (l : List (List Int)) (s f : Int) (w : l.length ≤ 1048576 ∧ ∀ y ∈ l, y.length ≤ 1048576) {f0 : Fl} (q0 : inFl f0 = true) : fix Tb md 146 [I k, R (row fR l) f0, I s, I f] = some ⟨[B (chkV k l s f)], [], none⟩ := by
 obtain ⟨n, hn⟩ := nm (finV k l s)
 obtain ⟨a, ha⟩ := nm (decide (f = 0))
 obtain ⟨b, hb⟩ := nm (decide (n = f))
 rw [show chkV k l s f = (!a && b) by rw [ha, hb, hn]; rfl]
 generalize hr : (⟨_, [], none⟩ : Ret) = r
 obtain ⟨el, hel⟩ := nm (row fR l)
 rw [← hel]
 refine fix_fn2 (fn := ir146) tb_146 rfl rfl (by decide) rfl ?_; intro Q hQ; simp only [shutArgs, shutS, List.map_cons, List.map_nil, ir146, shut_in q0, List.head?_nil, reduceCtorEq, if_false, sExt, sHello, sAnswer, sEdit, sDeal, sBox, sDialed, sKnown]
 intro add sub mul arith eq ne lt le gt ge neg conv mn mx not beq len at' ln bd cut app allS isNil mks set o hP F ho
 have c1 : o 144 [I k, R el (.sp 1 0), I s] = some ⟨[I n], [], none⟩ := by rw [ho, hn, hel]; exact ok144 k l s w rfl
 have g1 : ne f 0 = !a := by rw [F.ne, ha]; simp
 have g2 : eq f n = b := by rw [F.eq, hb]; simp [eq_comm]
 cbv
 rw [g1]
 refine both (fun d1 => ?_) (fun d1 => ?_) <;> rw [d1] <;> cbv
 ·rw [c1]; cbv
  rw [g2]; cbv
  rw [hQ]; cbv
  rw [← hr, d1]; rfl
 ·rw [hQ]; cbv
  rw [← hr, d1]; rfl
theorem ok118 (v : Int) (l : List Ext) (hl : l.length ≤ 1099511627776) (w : ∀ y ∈ l, y.body.length ≤ 1099511627776) {f0 : Fl} (h0 : inFl f0 = true) : fix Tb md 118 [sAnswer v (row fExt l) f0] = some ⟨[B (isAns v l)], [], none⟩ := by
 obtain ⟨a, ha⟩ := nm (inR v 1 9)
 obtain ⟨b, hb⟩ := nm (areEx l)
 rw [show isAns v l = (a && b) by rw [ha, hb]; rfl]
 generalize hr : (⟨_, [], none⟩ : Ret) = r
 obtain ⟨ea, hea⟩ := nm (row fExt l)
 rw [← hea]
 refine fix_fn2 (fn := ir118) tb_118 rfl rfl (by decide) rfl ?_; intro Q hQ; simp only [shutArgs, shutS, List.map_cons, List.map_nil, ir118, shut_in h0, List.head?_nil, reduceCtorEq, if_false, sExt, sHello, sAnswer, sEdit, sDeal, sBox, sDialed, sKnown]
 intro add sub mul arith eq ne lt le gt ge neg conv mn mx not beq len at' ln bd cut app allS isNil mks set o hP F ho
 have c1 : o 232 [I v, I 1, I 9] = some ⟨[B a], [], none⟩ := by rw [ho, ha]; exact ok232 ..
 have c2 : o 258 [R ea (.sp 0 0)] = some ⟨[B b], [], none⟩ := by rw [ho, hb, hea]; exact ok258 _ hl w rfl
 cbv
 rw [c1]; cbv
 refine both (fun d1 => ?_) (fun d1 => ?_) <;> rw [d1] <;> cbv
 ·rw [c2]; cbv
  rw [hQ]; cbv
  rw [← hr, d1]; rfl
 ·rw [hQ]; cbv
  rw [← hr, d1]; rfl
theorem ok294 (l : List Ext) (hok : areEx l = true) {f0 : Fl} (h0 : inFl f0 = true) : fix Tb md 294 [R (row fExt l) f0] = some ⟨[R (row fI (encX l)) (.ow false), B true], [], none⟩ := by
 obtain ⟨hl, hw⟩ := areEx_all hok
 obtain ⟨et, het⟩ := nm (row fI (encX l))
 rw [← het]
 generalize hr : (⟨_, [], none⟩ : Ret) = r
 obtain ⟨ea, hea⟩ := nm (row fExt l)
 rw [← hea]
 obtain ⟨nl, hnl⟩ := nm ((l.length : Int))
 obtain ⟨e0, he0⟩ := nm (row fI [nl])
 have hen : encX l = nl :: l.flatMap exI := by rw [hnl]; rfl
 refine fix_fn2 (fn := ir294) tb_294 rfl rfl (by decide) rfl ?_; intro Q hQ; simp only [shutArgs, shutS, List.map_cons, List.map_nil, ir294, shut_in h0, List.head?_nil, reduceCtorEq, if_false, sExt, sHello, sAnswer, sEdit, sDeal, sBox, sDialed, sKnown]
 intro add sub mul arith eq ne lt le gt ge neg conv mn mx not beq len at' ln bd cut app allS isNil mks set o hP F ho
 have la := F.len_at hea
 have lna : len ea = nl := by rw [hnl]; exact la
 have la' : At nl l.length := hnl
 have c1 : o 258 [R ea (.sp 0 0)] = some ⟨[B true], [], none⟩ := by rw [ho, hea, ← hok]; exact ok258 _ (by omega) (fun y hy => by have := (hw y hy).1; omega) rfl
 cbv
 rw [c1]; cbv
 rw [show not true = false by rw [F.not]; rfl]; cbv
 rw [lna]
 refine loop_ind2 hP (σ := List Ext × List Ext × List (List V) × Int × Option (Int × List (List V))) (fun s => match s.2.2.2.2 with | none => [(0, R ea .sh), (2, R [] .nl), (3, B false), (4, R s.2.2.1 (.ow false)), (13, R ea .sh), (14, I nl), (15, I s.2.2.2.1)] | some j => [(0, R ea .sh), (2, R [] .nl), (3, B false), (4, R s.2.2.1 (.ow false)), (6, ⟨.ptr 38 0, []⟩), (13, R ea .sh), (14, I nl), (15, I s.2.2.2.1), (38, ⟨.box (), [⟨.int .i64 j.1, .sc⟩, ⟨.row () j.2, .sh⟩]⟩)]) (fun s => At s.2.2.2.1 s.2.1.length ∧ l = s.2.1 ++ s.1 ∧ s.2.2.1 = row fI (nl :: s.2.1.flatMap exI)) (fun s => s.1.length) (l, [], [[.int .i64 nl]], 0, none) rfl ⟨rfl, rfl, rfl⟩ ?_
 intro c1 Q1 hc1 hQ1
 rintro ⟨suf, pre, eo, i, j⟩ ⟨hi, hl', hb⟩ ih
 simp only at hi hl' hb ih
 have hpre : pre.length ≤ 6 := by rw [hl'] at hl; simp at hl; omega
 have hfl : (pre.flatMap exI).length ≤ 36 := by have := exI_len (l := pre) (fun y hy => (hw y (by rw [hl']; simp [hy])).1); omega
 rcases j with _ | ⟨j1, j2⟩
 all_goals
  cbv
  cases suf with
  | nil =>
   rw [F.lt_f hi la' (by simp [hl'])]; cbv
   rw [hQ1]; cbv
   rw [hQ]; cbv
   rw [← hr, het, hb, hen, hl', List.append_nil]
  | cons x suf =>
   obtain ⟨ix, hix⟩ := nm (pre.length * 2)
   obtain ⟨e1, he1⟩ := nm (row fI x.body)
   obtain ⟨nb, hnb⟩ := nm ((x.body.length : Int))
   have hx := (hw x (by rw [hl']; simp)).1
   have hxi : exI x = x.tag :: nb :: x.body := by rw [hnb]; rfl
   have p0 : at' 2 ea i = some (ix, [.int .i64 x.tag, .row () e1]) := by rw [hix, he1]; exact F.get hi hea hl' (fun _ => rfl) (by decide)
   have l1 : len e1 = nb := by rw [hnb]; exact F.len_at he1
   obtain ⟨eo1, heo1⟩ := nm (row fI (nl :: pre.flatMap exI ++ [x.tag, nb]))
   obtain ⟨eo2, heo2⟩ := nm (row fI (nl :: (pre ++ [x]).flatMap exI))
   have q1 : app 1 eo [[.int .i64 x.tag], [.int .i64 nb]] = some eo1 := by
    have h := F.app' (f := fI) (k := 1) (e2 := [[.int .i64 x.tag], [.int .i64 nb]]) (l2 := [x.tag, nb]) hb rfl (fun _ => rfl) (by simp only [List.length_cons, List.length_append, List.length_nil]; omega)
    rw [h, heo1]
   have q2 : app 1 eo1 e1 = some eo2 := by
    have h := F.app' (f := fI) (k := 1) heo1 he1 (fun _ => rfl) (by simp only [List.length_cons, List.length_append, List.length_nil]; omega)
    rw [h, heo2, List.flatMap_append, List.flatMap_cons, hxi]; simp
   have q3 : allS [[.int .i64 x.tag], [.int .i64 nb]] = true := by rw [F.allS]; rfl
   have q4 : allS e1 = true := F.scal he1 (fun _ => rfl)
   rw [F.lt_t hi la' (by simp [hl'])]; cbv
   rw [p0]; cbv
   repeat' (first | (rw [p0]; cbv) | (rw [l1]; cbv) | (rw [q1]; cbv) | (rw [q2]; cbv) | (rw [q3]; cbv) | (rw [q4]; cbv))
   refine ih (suf, pre ++ [x], eo2, add .i64 i 1, some (x.tag, e1)) ⟨at_len (F.inc hi (by omega)) (by simp), by simp [hl'], heo2⟩ (by simp)
theorem ok152 (a : Answer) (hl : a.exts.length ≤ 1099511627776) (w : ∀ y ∈ a.exts, y.body.length ≤ 1099511627776) {f0 : Fl} (h0 : inFl f0 = true) : fix Tb md 152 [sAnswer a.version (row fExt a.exts) f0] = some ⟨[R (row fI (ansB a)) (.ow false)], [], none⟩ ∨ (ansB a = [] ∧ fix Tb md 152 [sAnswer a.version (row fExt a.exts) f0] = some ⟨[R [] .nl], [], none⟩) := by
 obtain ⟨u, hu⟩ := nm (isAns a.version a.exts)
 cases hu2 : u with
 | true =>
  rw [hu2] at hu
  have hok : areEx a.exts = true := by unfold isAns at hu; cases h : areEx a.exts with | true => rfl | false => rw [h, Bool.and_false] at hu; exact Bool.noConfusion hu
  refine .inl ?_
  obtain ⟨et, het⟩ := nm (row fI (ansB a))
  rw [← het]
  generalize hr : (⟨_, [], none⟩ : Ret) = r
  obtain ⟨ea, hea⟩ := nm (row fExt a.exts)
  rw [← hea]
  obtain ⟨ex, hex⟩ := nm (row fI (encX a.exts))
  have hlen := encX_len hok
  refine fix_fn2 (fn := ir152) tb_152 rfl rfl (by decide) rfl ?_; intro Q hQ; simp only [shutArgs, shutS, List.map_cons, List.map_nil, ir152, shut_in h0, List.head?_nil, reduceCtorEq, if_false, sExt, sHello, sAnswer, sEdit, sDeal, sBox, sDialed, sKnown]
  intro add sub mul arith eq ne lt le gt ge neg conv mn mx not beq len at' ln bd cut app allS isNil mks set o hP F ho
  have c1 : o 118 [sAnswer a.version ea (.sp 0 1)] = some ⟨[B true], [], none⟩ := by rw [ho, hu, hea]; exact ok118 _ _ hl w rfl
  have c2 : o 294 [R ea (.sp 0 0)] = some ⟨[R ex (.ow false), B true], [], none⟩ := by rw [ho, hea, hex]; exact ok294 _ hok rfl
  have q1 : app 1 [[.int .i64 a.version]] ex = some et := by
   have h := F.app' (f := fI) (k := 1) (e1 := [[.int .i64 a.version]]) (l1 := [a.version]) rfl hex (fun _ => rfl) (by simp; omega)
   rw [h, het, ansB, ← hu, if_pos rfl]; rfl
  have q2 : allS ex = true := F.scal hex (fun _ => rfl)
  cbv
  rw [c1]; cbv
  rw [show not true = false by rw [F.not]; rfl]; cbv
  rw [c2]; cbv
  rw [q2]; cbv
  rw [q1]; cbv
  rw [hQ]; cbv
  exact congrArg some hr
 | false =>
  rw [hu2] at hu
  refine .inr ⟨by rw [ansB, ← hu]; rfl, ?_⟩
  generalize hr : (⟨_, [], none⟩ : Ret) = r
  obtain ⟨ea, hea⟩ := nm (row fExt a.exts)
  rw [← hea]
  refine fix_fn2 (fn := ir152) tb_152 rfl rfl (by decide) rfl ?_; intro Q hQ; simp only [shutArgs, shutS, List.map_cons, List.map_nil, ir152, shut_in h0, List.head?_nil, reduceCtorEq, if_false, sExt, sHello, sAnswer, sEdit, sDeal, sBox, sDialed, sKnown]
  intro add sub mul arith eq ne lt le gt ge neg conv mn mx not beq len at' ln bd cut app allS isNil mks set o hP F ho
  have c1 : o 118 [sAnswer a.version ea (.sp 0 1)] = some ⟨[B false], [], none⟩ := by rw [ho, hu, hea]; exact ok118 _ _ hl w rfl
  cbv
  rw [c1]; cbv
  rw [show not false = true by rw [F.not]; rfl]; cbv
  rw [hQ]; cbv
  exact congrArg some hr
theorem ok288_0 (g : Nat) (hg : md g = []) (p : Ext → Bool) (l : List Ext) (hl : l.length ≤ 1099511627776) (hp : ∀ x ∈ l, fix Tb md g [sExt x.tag (row fI x.body) (.sp 0 1)] = some ⟨[B (p x)], [], none⟩) {f0 : Fl} (h0 : inFl f0 = true) :
  fix Tb md 288 [R (row fExt l) f0, ⟨.val, [⟨.fn g [], .sh⟩]⟩] = some ⟨[B (l.any p)], [], none⟩ := by
 refine fix_fn (fn := ir288) tb_288 rfl rfl (by decide) rfl ?_; simp only [shutArgs, shutS, List.map_cons, List.map_nil, ir288, shut_in h0, List.head?_nil, reduceCtorEq, if_false, sExt, sHello, sAnswer, sEdit, sDeal, sBox, sDialed, sKnown]
 generalize hr : (⟨_, [], none⟩ : Ret) = r
 obtain ⟨ea, hea⟩ := nm (row fExt l)
 rw [← hea]
 obtain ⟨v, hv⟩ := nm (ixOf p l 0)
 have hv2 : decide (0 ≤ v) = l.any p := by rw [hv]; exact ixOf_ge p l 0 (by decide)
 rw [← hv2] at hr
 clear hv2
 intro add sub mul arith eq ne lt le gt ge neg conv mn mx not beq len at' ln bd cut app allS isNil mks set o hP F ho
 have c1 : o 351 [R ea (.sp 0 0), ⟨.val, [⟨.fn g [], .sh⟩]⟩] = some ⟨[I v], [], none⟩ := by rw [ho, hv, hea]; exact ok351_0 g hg p l hl hp rfl
 cbv
 rw [c1]; cbv
 rw [← hr, F.ge]
theorem ok288_1 (g : Nat) (hg : md g = []) (k0 : V) (p : Ext → Bool) (l : List Ext) (hl : l.length ≤ 1099511627776) (hp : ∀ x ∈ l, fix Tb md g [sExt x.tag (row fI x.body) (.sp 0 1), ⟨.val, [⟨k0, .sh⟩]⟩] = some ⟨[B (p x)], [], none⟩) {f0 : Fl} (h0 : inFl f0 = true) :
  fix Tb md 288 [R (row fExt l) f0, ⟨.val, [⟨.fn g [k0], .sh⟩]⟩] = some ⟨[B (l.any p)], [], none⟩ := by
 refine fix_fn (fn := ir288) tb_288 rfl rfl (by decide) rfl ?_; simp only [shutArgs, shutS, List.map_cons, List.map_nil, ir288, shut_in h0, List.head?_nil, reduceCtorEq, if_false, sExt, sHello, sAnswer, sEdit, sDeal, sBox, sDialed, sKnown]
 generalize hr : (⟨_, [], none⟩ : Ret) = r
 obtain ⟨ea, hea⟩ := nm (row fExt l)
 rw [← hea]
 obtain ⟨v, hv⟩ := nm (ixOf p l 0)
 have hv2 : decide (0 ≤ v) = l.any p := by rw [hv]; exact ixOf_ge p l 0 (by decide)
 rw [← hv2] at hr
 clear hv2
 intro add sub mul arith eq ne lt le gt ge neg conv mn mx not beq len at' ln bd cut app allS isNil mks set o hP F ho
 have c1 : o 351 [R ea (.sp 0 0), ⟨.val, [⟨.fn g [k0], .sh⟩]⟩] = some ⟨[I v], [], none⟩ := by rw [ho, hv, hea]; exact ok351_1 g hg k0 p l hl hp rfl
 cbv
 rw [c1]; cbv
 rw [← hr, F.ge]
theorem ok288_2 (g : Nat) (hg : md g = []) (k0 k1 : V) (p : Ext → Bool) (l : List Ext) (hl : l.length ≤ 1099511627776) (hp : ∀ x ∈ l, fix Tb md g [sExt x.tag (row fI x.body) (.sp 0 1), ⟨.val, [⟨k0, .sh⟩]⟩, ⟨.val, [⟨k1, .sh⟩]⟩] = some ⟨[B (p x)], [], none⟩) {f0 : Fl} (h0 : inFl f0 = true) :
  fix Tb md 288 [R (row fExt l) f0, ⟨.val, [⟨.fn g [k0, k1], .sh⟩]⟩] = some ⟨[B (l.any p)], [], none⟩ := by
 refine fix_fn (fn := ir288) tb_288 rfl rfl (by decide) rfl ?_; simp only [shutArgs, shutS, List.map_cons, List.map_nil, ir288, shut_in h0, List.head?_nil, reduceCtorEq, if_false, sExt, sHello, sAnswer, sEdit, sDeal, sBox, sDialed, sKnown]
 generalize hr : (⟨_, [], none⟩ : Ret) = r
 obtain ⟨ea, hea⟩ := nm (row fExt l)
 rw [← hea]
 obtain ⟨v, hv⟩ := nm (ixOf p l 0)
 have hv2 : decide (0 ≤ v) = l.any p := by rw [hv]; exact ixOf_ge p l 0 (by decide)
 rw [← hv2] at hr
 clear hv2
 intro add sub mul arith eq ne lt le gt ge neg conv mn mx not beq len at' ln bd cut app allS isNil mks set o hP F ho
 have c1 : o 351 [R ea (.sp 0 0), ⟨.val, [⟨.fn g [k0, k1], .sh⟩]⟩] = some ⟨[I v], [], none⟩ := by rw [ho, hv, hea]; exact ok351_2 g hg k0 k1 p l hl hp rfl
 cbv
 rw [c1]; cbv
 rw [← hr, F.ge]
theorem ok229 (a b : List Int) (hl : a.length ≤ 1099511627776) {f0 f1 : Fl} (h0 : inFl f0 = true) (h1 : inFl f1 = true) : fix Tb md 229 [R (row fI a) f0, R (row fI b) f1] = some ⟨[B (decide (a = b))], [], none⟩ := by
 refine fix_fn (fn := ir229) tb_229 rfl rfl (by decide) rfl ?_; simp only [shutArgs, shutS, List.map_cons, List.map_nil, ir229, shut_in h0, shut_in h1, List.head?_nil, reduceCtorEq, if_false, sExt, sHello, sAnswer, sEdit, sDeal, sBox, sDialed, sKnown]
 generalize hr : (⟨_, [], none⟩ : Ret) = r
 obtain ⟨ea, hea⟩ := nm (row fI a)
 obtain ⟨eb, heb⟩ := nm (row fI b)
 rw [← hea, ← heb]
 intro add sub mul arith eq ne lt le gt ge neg conv mn mx not beq len at' ln bd cut app allS isNil mks set o hP F ho
 have la := F.len_at hea
 have lb := F.len_at heb
 cbv
 by_cases hab : a.length = b.length
 ·rw [F.ne_f (by unfold At at la lb; omega)]; cbv
  refine loop_ind hP (σ := List Int × List Int × List Int × Int × Option Int) (fun s => match s.2.2.2.2 with | none => [(0, R ea .sh), (1, R eb .sh), (4, B false), (12, I (len ea)), (13, I s.2.2.2.1)] | some j => [(0, R ea .sh), (1, R eb .sh), (4, B false), (5, I j), (12, I (len ea)), (13, I s.2.2.2.1)]) (fun s => At s.2.2.2.1 s.1.length ∧ a = s.1 ++ s.2.1 ∧ b = s.1 ++ s.2.2.1) (fun s => s.2.1.length) ([], a, b, 0, none) rfl ⟨rfl, rfl, rfl⟩ ?_
  rintro ⟨pre, sa, sb, i, j⟩ ⟨hi, ha, hb⟩ ih
  simp only at hi ha hb ih
  have hlen : sa.length = sb.length := by simp [ha, hb] at hab; exact hab
  cases j <;> cbv <;> (
   match sa, sb, hlen, ha, hb with
   | [], [], _, ha, hb =>
    rw [F.lt_f hi la (by simp [ha])]; cbv
    rw [← hr]; simp [ha, hb]
   | x :: sa, y :: sb, _, ha, hb =>
    rw [F.lt_t hi la (by simp [ha])]; cbv
    obtain ⟨ix, hix⟩ := nm (pre.length * 1)
    rw [show at' 1 ea i = some (ix, [.int .i64 x]) by rw [hix]; exact F.get hi hea ha (fun _ => rfl) (by decide)]; cbv
    rw [show at' 1 eb i = some (ix, [.int .i64 y]) by rw [hix]; exact F.get hi heb hb (fun _ => rfl) (by decide)]; cbv
    by_cases hxy : x = y
    ·rw [F.ne_f hxy]; cbv
     refine ih (pre ++ [x], sa, sb, add .i64 i 1, some i) ⟨at_len (F.inc hi (by simp [ha] at hl; omega)) (by simp), by simp [ha], by simp [hb, hxy]⟩ (by simp)
    ·rw [F.ne_t hxy]; cbv
     rw [← hr]; simp [ha, hb, hxy])
 ·rw [F.ne_t (by unfold At at la lb; omega)]; cbv
  rw [← hr]
  simp
  intro e; exact hab (by rw [e])
theorem ok291 (x y : Ext) (hx : x.body.length ≤ 1099511627776) {f0 f1 : Fl} (h0 : inFl f0 = true) (h1 : inFl f1 = true) : fix Tb md 291 [sExt x.tag (row fI x.body) f0, sExt y.tag (row fI y.body) f1] = some ⟨[B (decide (x = y))], [], none⟩ := by
 obtain ⟨v, hv⟩ := nm (decide (x.body = y.body))
 obtain ⟨u, hu⟩ := nm (decide (x.tag = y.tag))
 rw [show decide (x = y) = (u && v) by rw [hu, hv]; simp only [Ext.eq_iff]; by_cases k1 : x.tag = y.tag <;> by_cases k2 : x.body = y.body <;> simp [k1, k2]]
 generalize hr : (⟨_, [], none⟩ : Ret) = r
 obtain ⟨ex, hex⟩ := nm (row fI x.body)
 obtain ⟨ey, hey⟩ := nm (row fI y.body)
 rw [← hex, ← hey]
 refine fix_fn2 (fn := ir291) tb_291 rfl rfl (by decide) rfl ?_; intro Q hQ; simp only [shutArgs, shutS, List.map_cons, List.map_nil, ir291, shut_in h0, shut_in h1, List.head?_nil, reduceCtorEq, if_false, sExt, sHello, sAnswer, sEdit, sDeal, sBox, sDialed, sKnown]
 intro add sub mul arith eq ne lt le gt ge neg conv mn mx not beq len at' ln bd cut app allS isNil mks set o hP F ho
 have c1 : o 229 [R ex (.sp 0 0), R ey (.sp 1 0)] = some ⟨[B v], [], none⟩ := by rw [ho, hv, hex, hey]; exact ok229 _ _ hx rfl rfl
 have g1 : eq x.tag y.tag = u := by rw [F.eq, hu]
 cbv
 rw [g1]; cbv
 refine both (fun d1 => ?_) (fun d1 => ?_) <;> rw [d1] <;> cbv
 ·rw [c1]; cbv
  rw [hQ]; cbv
  rw [← hr, d1]; rfl
 ·rw [hQ]; cbv
  rw [← hr, d1]; rfl
theorem notIn_nil (a b : List Int) : decide ((sel (notIn b) idI a).length = 0) = a.all (hasI b) := by
 rw [sel_idI]
 induction a with
 | nil => rfl
 | cons x a ih =>
  rw [List.filter_cons, List.all_cons, notIn]
  cases h : hasI b x with
  | true => simpa using ih
  | false => simp
theorem ok337 (t : Int) : fix Tb md 337 [I t] = some ⟨[B (resv t)], [], none⟩ := by
 obtain ⟨a, ha⟩ := nm (inR t 0 255)
 obtain ⟨n, hn⟩ := nm (Int.tmod t 16)
 obtain ⟨b, hb⟩ := nm (decide (n = 10))
 rw [show resv t = (a && b) by rw [ha, hb, hn]; rfl]
 generalize hr : (⟨_, [], none⟩ : Ret) = r
 refine fix_fn2 (fn := ir337) tb_337 rfl rfl (by decide) rfl ?_; intro Q hQ; simp only [shutArgs, shutS, List.map_cons, List.map_nil, ir337, List.head?_nil, reduceCtorEq, if_false, sExt, sHello, sAnswer, sEdit, sDeal, sBox, sDialed, sKnown]
 intro add sub mul arith eq ne lt le gt ge neg conv mn mx not beq len at' ln bd cut app allS isNil mks set o hP F ho
 have c1 : o 232 [I t, I 0, I 255] = some ⟨[B a], [], none⟩ := by rw [ho, ha]; exact ok232 ..
 have g1 : arith .rem .i64 t 16 = some (.int .i64 n) := by rw [F.arith, hn]; rfl
 have g2 : eq n 10 = b := by rw [F.eq, hb]
 cbv
 rw [c1]; cbv
 refine both (fun d => ?_) (fun d => ?_) <;> rw [d] <;> cbv
 ·rw [g1]; cbv
  rw [hQ]; cbv
  rw [g2, ← hr, d]; rfl
 ·rw [hQ]; cbv
  rw [← hr, d]; rfl
theorem ok223 (l : List Int) (hl : l.length ≤ 1099511627776) {f0 : Fl} (h0 : inFl f0 = true) : fix Tb md 223 [R (row fI l) f0] = some ⟨[B (l.any resv)], [], none⟩ := by
 obtain ⟨v, hv⟩ := nm (l.any resv)
 rw [← hv]
 generalize hr : (⟨_, [], none⟩ : Ret) = r
 obtain ⟨ea, hea⟩ := nm (row fI l)
 rw [← hea]
 refine fix_fn2 (fn := ir223) tb_223 rfl rfl (by decide) rfl ?_; intro Q hQ; simp only [shutArgs, shutS, List.map_cons, List.map_nil, ir223, shut_in h0, List.head?_nil, reduceCtorEq, if_false, sExt, sHello, sAnswer, sEdit, sDeal, sBox, sDialed, sKnown]
 intro add sub mul arith eq ne lt le gt ge neg conv mn mx not beq len at' ln bd cut app allS isNil mks set o hP F ho
 have c1 : o 336 [R ea (.sp 0 0), ⟨.val, [⟨.fn 337 [], .sh⟩]⟩] = some ⟨[B v], [], none⟩ := by rw [ho, hv, hea]; exact ok336_0 337 rfl resv l hl (fun x _ => ok337 x) rfl
 cbv
 rw [c1]; cbv
 rw [hQ]; cbv
 exact congrArg some hr
theorem ok303 (l : List Ext) (hl : l.length ≤ 1073741824) {f0 : Fl} (h0 : inFl f0 = true) : fix Tb md 303 [R (row fExt l) f0] = some ⟨[B ((tags l).any resv)], [], none⟩ := by
 obtain ⟨v, hv⟩ := nm ((tags l).any resv)
 rw [← hv]
 have ht : (tags l).length ≤ l.length := sel_len
 generalize hr : (⟨_, [], none⟩ : Ret) = r
 obtain ⟨ea, hea⟩ := nm (row fExt l)
 rw [← hea]
 obtain ⟨et, het⟩ := nm (row fI (tags l))
 refine fix_fn2 (fn := ir303) tb_303 rfl rfl (by decide) rfl ?_; intro Q hQ; simp only [shutArgs, shutS, List.map_cons, List.map_nil, ir303, shut_in h0, List.head?_nil, reduceCtorEq, if_false, sExt, sHello, sAnswer, sEdit, sDeal, sBox, sDialed, sKnown]
 intro add sub mul arith eq ne lt le gt ge neg conv mn mx not beq len at' ln bd cut app allS isNil mks set o hP F ho
 have c1 : o 179 [R ea (.sp 0 0)] = some ⟨[R et (.ow false)], [], none⟩ := by rw [ho, het, hea]; exact ok179 _ hl rfl
 have c2 : o 223 [R et (.sp 0 0)] = some ⟨[B v], [], none⟩ := by rw [ho, hv, het]; exact ok223 _ (by omega) rfl
 cbv
 rw [c1]; cbv
 rw [c2]; cbv
 rw [hQ]; cbv
 exact congrArg some hr
theorem fitsV_eq (h : Hello) (a : Answer) : fitsV h a = (isHel h && isAns a.version a.exts && hasI h.versions a.version && decide ((sel (notIn (tags h.exts)) idI (tags a.exts)).length = 0) && !(tags a.exts).any resv) := by
 rw [notIn_nil]
 have e : a.exts.all (okT h) = ((tags a.exts).all (hasI (tags h.exts)) && !(tags a.exts).any resv) := by
  rw [tags_map a.exts]
  induction a.exts with
  | nil => rfl
  | cons y l ih =>
   rw [List.all_cons, ih, List.map_cons, List.all_cons, List.any_cons, okT, extOf_neg]
   cases hasI (tags h.exts) y.tag <;> cases resv y.tag <;> simp
 rw [fitsV, e]
 cases isHel h <;> cases isAns a.version a.exts <;> cases hasI h.versions a.version <;> simp
theorem ok161 (h : Hello) (a : Answer) (mh : h.Mid) (ma : a.Mid) {f0 f1 f2 : Fl} (q0 : inFl f0 = true) (q1 : inFl f1 = true) (q2 : inFl f2 = true) : fix Tb md 161 [sHello (row fI h.versions) (row fExt h.exts) f0 f1, sAnswer a.version (row fExt a.exts) f2] = some ⟨[B (fitsV h a)], [], none⟩ := by
 unfold Hello.Mid at mh
 unfold Answer.Mid at ma
 obtain ⟨u1, hu1⟩ := nm (isHel h)
 obtain ⟨u2, hu2⟩ := nm (isAns a.version a.exts)
 obtain ⟨u3, hu3⟩ := nm (hasI h.versions a.version)
 obtain ⟨u4, hu4⟩ := nm (decide ((sel (notIn (tags h.exts)) idI (tags a.exts)).length = 0))
 obtain ⟨u5, hu5⟩ := nm ((tags a.exts).any resv)
 rw [fitsV_eq, ← hu1, ← hu2, ← hu3, ← hu4, ← hu5]
 generalize hr : (⟨_, [], none⟩ : Ret) = r
 obtain ⟨dv, hdv⟩ := nm (row fI h.versions)
 obtain ⟨dx, hdx⟩ := nm (row fExt h.exts)
 obtain ⟨ex, hex⟩ := nm (row fExt a.exts)
 rw [← hdv, ← hdx, ← hex]
 obtain ⟨th, hth⟩ := nm (row fI (tags h.exts))
 obtain ⟨ta, hta⟩ := nm (row fI (tags a.exts))
 obtain ⟨ez, hez⟩ := nm (row fI (sel (notIn (tags h.exts)) idI (tags a.exts)))
 have tl1 : (tags h.exts).length ≤ h.exts.length := sel_len
 have tl2 : (tags a.exts).length ≤ a.exts.length := sel_len
 have wh : ∀ y ∈ h.exts, y.body.length ≤ 1099511627776 := fun y hy => Nat.le_trans (show y.body.length ≤ 1073741824 from mh.2.2 y hy) (by decide)
 have wa : ∀ y ∈ a.exts, y.body.length ≤ 1099511627776 := fun y hy => Nat.le_trans (show y.body.length ≤ 1073741824 from ma.2 y hy) (by decide)
 refine fix_fn2 (fn := ir161) tb_161 rfl rfl (by decide) rfl ?_; intro Q hQ; simp only [shutArgs, shutS, List.map_cons, List.map_nil, ir161, shut_in q0, shut_in q1, shut_in q2, List.head?_nil, reduceCtorEq, if_false, sExt, sHello, sAnswer, sEdit, sDeal, sBox, sDialed, sKnown]
 intro add sub mul arith eq ne lt le gt ge neg conv mn mx not beq len at' ln bd cut app allS isNil mks set o hP F ho
 have lz := F.len_at hez
 have c1 : o 113 [sHello dv dx (.sp 0 0) (.sp 0 1)] = some ⟨[B u1], [], none⟩ := by rw [ho, hu1, hdv, hdx]; exact ok113 _ (by omega) (by omega) wh rfl rfl
 have c2 : o 118 [sAnswer a.version ex (.sp 0 1)] = some ⟨[B u2], [], none⟩ := by rw [ho, hu2, hex]; exact ok118 _ _ (by omega) wa rfl
 have c3 : o 302 [R dv (.sp 0 0), I a.version] = some ⟨[B u3], [], none⟩ := by rw [ho, hu3, hdv]; exact ok302 _ _ (by omega) rfl
 have c4 : o 179 [R ex (.sp 0 0)] = some ⟨[R ta (.ow false)], [], none⟩ := by rw [ho, hta, hex]; exact ok179 _ (by omega) rfl
 have c5 : o 179 [R dx (.sp 0 0)] = some ⟨[R th (.ow false)], [], none⟩ := by rw [ho, hth, hdx]; exact ok179 _ (by omega) rfl
 have c6 : o 287 [R ta (.sp 0 0), R th (.sp 1 0)] = some ⟨[R ez (.ow false)], [], none⟩ := by rw [ho, hez, hth, hta]; exact ok287 _ _ (by omega) (by omega) rfl rfl
 have c7 : o 303 [R ex (.sp 0 0)] = some ⟨[B u5], [], none⟩ := by rw [ho, hu5, hex]; exact ok303 _ (by omega) rfl
 have g1 : eq (len ez) 0 = u4 := by rw [F.eq_n lz (k := 0) (m := 0) rfl, hu4]
 cbv
 rw [c1]; cbv
 refine both (fun d1 => ?_) (fun d1 => ?_) <;> rw [d1] <;> cbv
 rotate_left
 ·rw [hQ]; cbv
  rw [← hr, d1]; rfl
 rw [c2]; cbv
 refine both (fun d2 => ?_) (fun d2 => ?_) <;> rw [d2] <;> cbv
 rotate_left
 ·rw [hQ]; cbv
  rw [← hr, d1, d2]; rfl
 rw [c3]; cbv
 refine both (fun d3 => ?_) (fun d3 => ?_) <;> rw [d3] <;> cbv
 rotate_left
 ·rw [hQ]; cbv
  rw [← hr, d1, d2, d3]; rfl
 rw [c4]; cbv
 rw [c5]; cbv
 rw [c6]; cbv
 rw [g1]; cbv
 refine both (fun d4 => ?_) (fun d4 => ?_) <;> rw [d4] <;> cbv
 rotate_left
 ·rw [hQ]; cbv
  rw [← hr, d1, d2, d3, d4]; rfl
 rw [c7]; cbv
 rw [hQ]; cbv
 rw [← hr, d1, d2, d3, d4, F.not]; rfl
theorem ok163 (h : Hello) (mh : h.Mid) {f0 f1 : Fl} (q0 : inFl f0 = true) (q1 : inFl f1 = true) : fix Tb md 163 [sHello (row fI h.versions) (row fExt h.exts) f0 f1] = some ⟨[R (row fI (helB h)) (.ow false)], [], none⟩ ∨ (helB h = [] ∧ fix Tb md 163 [sHello (row fI h.versions) (row fExt h.exts) f0 f1] = some ⟨[R [] .nl], [], none⟩) := by
 have mh' := mh
 unfold Hello.Mid at mh'
 have hvl := mh'.1
 have hxl := mh'.2.1
 have wh : ∀ y ∈ h.exts, y.body.length ≤ 1099511627776 := fun y hy => Nat.le_trans (show y.body.length ≤ 1073741824 from mh'.2.2 y hy) (by decide)
 have k1 := ok113 h (by omega) (by omega) wh (f0 := .sp 0 0) (f1 := .sp 0 1) rfl rfl
 cases hi : isHel h with
 | false =>
  rw [hi] at k1
  have hb : helB h = [] := by unfold helB; rw [hi]; rfl
  refine .inr ⟨hb, ?_⟩
  generalize hr : (⟨_, [], none⟩ : Ret) = r
  obtain ⟨dv, hdv⟩ := nm (row fI h.versions)
  obtain ⟨dx, hdx⟩ := nm (row fExt h.exts)
  rw [← hdv, ← hdx] at k1 ⊢
  refine fix_fn2 (fn := ir163) tb_163 rfl rfl (by decide) rfl ?_; intro Q hQ; simp only [shutArgs, shutS, List.map_cons, List.map_nil, ir163, shut_in q0, shut_in q1, List.head?_nil, reduceCtorEq, if_false, sExt, sHello, sAnswer, sEdit, sDeal, sBox, sDialed, sKnown]
  intro add sub mul arith eq ne lt le gt ge neg conv mn mx not beq len at' ln bd cut app allS isNil mks set o hP F ho
  rw [← ho] at k1
  cbv
  rw [k1]; cbv
  rw [show not false = true by rw [F.not]; rfl]; cbv
  rw [hQ]; cbv
  exact congrArg some hr
 | true =>
  rw [hi] at k1
  have hok := isHel_ex hi
  have hlen := encX_len hok
  have hb : helB h = (h.versions.length : Int) :: h.versions ++ encX h.exts := by unfold helB; rw [hi]; rfl
  refine .inl ?_
  rw [hb]
  obtain ⟨n, hn⟩ := nm ((h.versions.length : Int))
  obtain ⟨et, het⟩ := nm (row fI (n :: h.versions ++ encX h.exts))
  rw [← hn, ← het]
  generalize hr : (⟨_, [], none⟩ : Ret) = r
  obtain ⟨dv, hdv⟩ := nm (row fI h.versions)
  obtain ⟨dx, hdx⟩ := nm (row fExt h.exts)
  rw [← hdv, ← hdx] at k1 ⊢
  obtain ⟨ex, hex⟩ := nm (row fI (encX h.exts))
  refine fix_fn2 (fn := ir163) tb_163 rfl rfl (by decide) rfl ?_; intro Q hQ; simp only [shutArgs, shutS, List.map_cons, List.map_nil, ir163, shut_in q0, shut_in q1, List.head?_nil, reduceCtorEq, if_false, sExt, sHello, sAnswer, sEdit, sDeal, sBox, sDialed, sKnown]
  intro add sub mul arith eq ne lt le gt ge neg conv mn mx not beq len at' ln bd cut app allS isNil mks set o hP F ho
  rw [← ho] at k1
  have c2 : o 294 [R dx (.sp 0 0)] = some ⟨[R ex (.ow false), B true], [], none⟩ := by rw [ho, hdx, hex]; exact ok294 _ hok rfl
  have g1 : len dv = n := by rw [hn]; exact F.len_at hdv
  cbv
  rw [k1]; cbv
  rw [show not true = false by rw [F.not]; rfl]; cbv
  rw [c2]; cbv
  rw [g1]; cbv
  have c3 : o 304 [R [[.row () [[.int .i64 n]]], [.row () dv], [.row () ex]] (.sp 0 0)] = some ⟨[R et (.ow false)], [], none⟩ := by
   rw [ho, het, hdv, hex]
   have := ok304 [[n], h.versions, encX h.exts] (by simp) (by simp; omega) (by simp) (f0 := .sp 0 0) rfl
   simpa [row, fR, fI] using this
  rw [c3]; cbv
  rw [hQ]; cbv
  exact congrArg some hr
theorem ok180 (l b : List Int) (hl : l.length ≤ 1073741824) (hb' : b.length ≤ 1073741824) {f0 f1 : Fl} (h0 : inFl f0 = true) (h1 : inFl f1 = true) : fix Tb md 180 [R (row fI l) f0, R (row fI b) f1] = some ⟨[R (row fI (sel (hasI b) idI l)) (.ow false)], [], none⟩ := by
 obtain ⟨et, het⟩ := nm (row fI (sel (hasI b) idI l))
 rw [← het]
 generalize hr : (⟨_, [], none⟩ : Ret) = r
 obtain ⟨ea, hea⟩ := nm (row fI l)
 obtain ⟨eb, heb⟩ := nm (row fI b)
 rw [← hea, ← heb]
 refine fix_fn2 (fn := ir180) tb_180 rfl rfl (by decide) rfl ?_; intro Q hQ; simp only [shutArgs, shutS, List.map_cons, List.map_nil, ir180, shut_in h0, shut_in h1, List.head?_nil, reduceCtorEq, if_false, sExt, sHello, sAnswer, sEdit, sDeal, sBox, sDialed, sKnown]
 intro add sub mul arith eq ne lt le gt ge neg conv mn mx not beq len at' ln bd cut app allS isNil mks set o hP F ho
 have la := F.len_at hea
 cbv
 refine loop_ind2 hP (σ := List Int × List Int × List (List V) × Int × Option (Int)) (fun s => match s.2.2.2.2 with | none => [(0, R ea .sh), (1, R eb .sh), (4, R [] .nl), (5, R s.2.2.1 (.ow false)), (9, R ea .sh), (10, I (len ea)), (11, I s.2.2.2.1)] | some j => [(0, R ea .sh), (1, R eb .sh), (4, R [] .nl), (5, R s.2.2.1 (.ow false)), (7, I j), (9, R ea .sh), (10, I (len ea)), (11, I s.2.2.2.1)]) (fun s => At s.2.2.2.1 s.2.1.length ∧ l = s.2.1 ++ s.1 ∧ s.2.2.1 = row fI (sel (hasI b) idI s.2.1)) (fun s => s.1.length) (l, [], [], 0, none) rfl ⟨rfl, rfl, rfl⟩ ?_
 intro c1 Q1 hc1 hQ1
 rintro ⟨suf, pre, eo, i, j⟩ ⟨hi, hl', hb⟩ ih
 simp only at hi hl' hb ih
 rcases j with _ | _
 all_goals
  cbv
  cases suf with
  | nil =>
   rw [F.lt_f hi la (by simp [hl'])]; cbv
   rw [hQ1]; cbv
   rw [hQ]; cbv
   rw [← hr, het, hb, hl', List.append_nil]
  | cons x suf =>
   obtain ⟨ix, hix⟩ := nm (pre.length * 1)
   have hpre : pre.length ≤ 1073741824 := by rw [hl'] at hl; simp at hl; omega
   have hs : (sel (hasI b) idI pre).length ≤ pre.length := sel_len
   have hi' : At (add .i64 i 1) (pre ++ [x]).length := at_len (F.inc hi (by omega)) (by simp)
   have hl2 : l = (pre ++ [x]) ++ suf := by rw [hl']; simp
   have hmem : x ∈ l := by rw [hl']; simp
   have p0 : at' 1 ea i = some (ix, [.int .i64 x]) := by rw [hix]; exact F.get hi hea hl' (fun _ => rfl) (by decide)
   obtain ⟨v, hv⟩ := nm (hasI b x)
   have c2 : o 302 [R eb (.sp 0 0), I x] = some ⟨[B v], [], none⟩ := by rw [ho, hv, heb]; exact ok302 _ _ (by omega) rfl
   rw [F.lt_t hi la (by simp [hl'])]; cbv
   rw [p0]; cbv
   rw [c2]; cbv
   refine both (fun d => ?_) (fun d => ?_) <;> rw [d] <;> cbv
   ·rw [show allS [[.int .i64 x]] = true by rw [F.allS]; rfl]; cbv
    obtain ⟨eo', heo'⟩ := nm (row fI (sel (hasI b) idI pre ++ [idI x]))
    rw [show app 1 eo [[.int .i64 x]] = some eo' by rw [heo']; exact F.push hb (fun _ => rfl) rfl (by omega)]; cbv
    refine ih (suf, pre ++ [x], eo', add .i64 i 1, some x) ⟨hi', hl2, by simp only; rw [heo', sel_t (by rw [← hv, d])]⟩ (by simp)
   ·refine ih (suf, pre ++ [x], eo, add .i64 i 1, some x) ⟨hi', hl2, by simp only; rw [hb, sel_f (by rw [← hv, d])]⟩ (by simp)
theorem ok111 (a b : List Int) (ha : a.length ≤ 1073741824) (hb : b.length ≤ 1073741824) {f0 f1 : Fl} (q0 : inFl f0 = true) (q1 : inFl f1 = true) : fix Tb md 111 [R (row fI a) f0, R (row fI b) f1] = some ⟨[I (bestC a b)], [], none⟩ := by
 obtain ⟨u, hu⟩ := nm (areVer a)
 obtain ⟨v, hv⟩ := nm (areVer b)
 obtain ⟨l, hl⟩ := nm (comm a b)
 obtain ⟨T, hT⟩ := nm (bestC a b)
 rw [← hT]
 have hT' : T = if u && v then l.foldl mxI 0 else 0 := by
  rw [hT, hu, hv, hl]
  cases hva : areVer a with
  | false => unfold bestC; rw [hva]; rfl
  | true => rw [comm_max hva]; unfold bestC; rw [hva]
 clear hT
 have hll : l.length ≤ 1073741824 := by rw [hl]; exact Nat.le_trans sel_len ha
 generalize hr : (⟨_, [], none⟩ : Ret) = r
 obtain ⟨ea, hea⟩ := nm (row fI a)
 obtain ⟨eb, heb⟩ := nm (row fI b)
 rw [← hea, ← heb]
 obtain ⟨el, hel⟩ := nm (row fI l)
 refine fix_fn2 (fn := ir111) tb_111 rfl rfl (by decide) rfl ?_; intro Q hQ; simp only [shutArgs, shutS, List.map_cons, List.map_nil, ir111, shut_in q0, shut_in q1, List.head?_nil, reduceCtorEq, if_false, sExt, sHello, sAnswer, sEdit, sDeal, sBox, sDialed, sKnown]
 intro add sub mul arith eq ne lt le gt ge neg conv mn mx not beq len at' ln bd cut app allS isNil mks set o hP F ho
 have ll := F.len_at hel
 have c1 : o 180 [R ea (.sp 0 0), R eb (.sp 1 0)] = some ⟨[R el (.ow false)], [], none⟩ := by rw [ho, hel, hl, hea, heb]; exact ok180 _ _ ha hb rfl rfl
 have c2 : o 255 [R ea (.sp 0 0)] = some ⟨[B u], [], none⟩ := by rw [ho, hu, hea]; exact ok255 _ (by omega) rfl
 have c3 : o 255 [R eb (.sp 0 0)] = some ⟨[B v], [], none⟩ := by rw [ho, hv, heb]; exact ok255 _ (by omega) rfl
 cbv
 rw [c2]; cbv
 refine both (fun d1 => ?_) (fun d1 => ?_) <;> rw [d1] <;> cbv
 ·rw [hQ]; cbv
  rw [← hr, hT', F.not_t d1]; rfl
 rw [c3]; cbv
 refine both (fun d2 => ?_) (fun d2 => ?_) <;> rw [d2] <;> cbv
 ·rw [hQ]; cbv
  rw [← hr, hT', F.not_f d1, F.not_t d2]; rfl
 rw [c1]; cbv
 have hT2 : T = l.foldl mxI 0 := by rw [hT', F.not_f d1, F.not_f d2]; rfl
 refine loop_ind2 hP (σ := List Int × List Int × Int × Int × Option Int) (fun s => match s.2.2.2.2 with
  | none => [(0, R ea .sh), (1, R eb .sh), (4, I 0), (5, I s.2.2.1), (18, R el (.ow false)), (19, I (len el)), (20, I s.2.2.2.1)]
  | some j => [(0, R ea .sh), (1, R eb .sh), (4, I 0), (5, I s.2.2.1), (7, I j), (18, R el (.ow false)), (19, I (len el)), (20, I s.2.2.2.1)]) (fun s => At s.2.2.2.1 s.2.1.length ∧ l = s.2.1 ++ s.1 ∧ s.1.foldl mxI s.2.2.1 = T) (fun s => s.1.length) (l, [], 0, 0, none) rfl ⟨rfl, rfl, hT2.symm⟩ ?_
 intro c9 Q1 hc9 hQ1
 rintro ⟨suf, pre, d, i, j⟩ ⟨hi, hl', hb⟩ ih
 simp only at hi hl' hb ih
 rcases j with _ | _
 all_goals
  cbv
  cases suf with
  | nil =>
   rw [F.lt_f hi ll (by simp [hl'])]; cbv
   rw [hQ1]; cbv
   rw [hQ]; cbv
   rw [← hr, ← hb]; rfl
  | cons x suf =>
   have hpl : pre.length ≤ 1073741824 := by rw [hl'] at hll; simp at hll; omega
   rw [List.foldl_cons] at hb
   obtain ⟨ix, hix⟩ := nm (pre.length * 1)
   have p0 : at' 1 el i = some (ix, [.int .i64 x]) := by rw [hix]; exact F.get hi hel hl' (fun _ => rfl) (by decide)
   obtain ⟨d', hd'⟩ := nm (mxI d x)
   have g2 : mx d x = d' := by rw [F.mx, hd']; rfl
   rw [F.lt_t hi ll (by simp [hl'])]; cbv
   rw [p0]; cbv
   rw [g2]; cbv
   rw [← hd'] at hb
   refine ih (suf, pre ++ [x], d', add .i64 i 1, some x) ⟨at_len (F.inc hi (by omega)) (by simp), by simp [hl'], hb⟩ (by simp)
theorem ok356 (n : Int) : fix Tb md 356 [I n] = some ⟨[B (!resv n)], [], none⟩ := by
 obtain ⟨v, hv⟩ := nm (resv n)
 rw [← hv]
 generalize hr : (⟨_, [], none⟩ : Ret) = r
 refine fix_fn2 (fn := ir356) tb_356 rfl rfl (by decide) rfl ?_; intro Q hQ; simp only [shutArgs, shutS, List.map_cons, List.map_nil, ir356, List.head?_nil, reduceCtorEq, if_false, sExt, sHello, sAnswer, sEdit, sDeal, sBox, sDialed, sKnown]
 intro add sub mul arith eq ne lt le gt ge neg conv mn mx not beq len at' ln bd cut app allS isNil mks set o hP F ho
 have c1 : o 337 [I n] = some ⟨[B v], [], none⟩ := by rw [ho, hv]; exact ok337 ..
 cbv
 rw [c1]; cbv
 rw [hQ]; cbv
 rw [← hr, F.not]
theorem ok308 (l : List Ext) (hl : l.length ≤ 1073741824) (w : ∀ y ∈ l, y.body.length ≤ 1099511627776) {f0 : Fl} (h0 : inFl f0 = true) : fix Tb md 308 [R (row fExt l) f0] = some ⟨[R (row fExt (sel notRes idE l)) (.ow false)], [], none⟩ := by
 obtain ⟨et, het⟩ := nm (row fExt (sel notRes idE l))
 rw [← het]
 generalize hr : (⟨_, [], none⟩ : Ret) = r
 obtain ⟨ea, hea⟩ := nm (row fExt l)
 rw [← hea]
 refine fix_fn2 (fn := ir308) tb_308 rfl rfl (by decide) rfl ?_; intro Q hQ; simp only [shutArgs, shutS, List.map_cons, List.map_nil, ir308, shut_in h0, List.head?_nil, reduceCtorEq, if_false, sExt, sHello, sAnswer, sEdit, sDeal, sBox, sDialed, sKnown]
 intro add sub mul arith eq ne lt le gt ge neg conv mn mx not beq len at' ln bd cut app allS isNil mks set o hP F ho
 have c1 : o 264 [R ea (.sp 0 0), ⟨.val, [⟨.fn 356 [], .sh⟩]⟩] = some ⟨[R et (.ow false)], [], none⟩ := by
  rw [ho, het, hea]
  exact ok264_0 356 rfl (fun n => !resv n) l hl w (fun x _ => ok356 x.tag) rfl
 cbv
 rw [c1]; cbv
 rw [hQ]; cbv
 exact congrArg some hr
theorem ok357 (n : Int) (b : List Int) (hb : b.length ≤ 1099511627776) : fix Tb md 357 [I n, ⟨.val, [⟨.ptr () [.row () (row fI b)], .sh⟩]⟩] = some ⟨[B (hasI b n)], [], none⟩ := by
 obtain ⟨v, hv⟩ := nm (hasI b n)
 rw [← hv]
 generalize hr : (⟨_, [], none⟩ : Ret) = r
 obtain ⟨eb, heb⟩ := nm (row fI b)
 rw [← heb]
 refine fix_fn2 (fn := ir357) tb_357 rfl rfl (by decide) rfl ?_; intro Q hQ; simp only [shutArgs, shutS, List.map_cons, List.map_nil, ir357, List.head?_nil, reduceCtorEq, if_false, sExt, sHello, sAnswer, sEdit, sDeal, sBox, sDialed, sKnown]
 intro add sub mul arith eq ne lt le gt ge neg conv mn mx not beq len at' ln bd cut app allS isNil mks set o hP F ho
 have c1 : o 302 [R eb (.sp 0 0), I n] = some ⟨[B v], [], none⟩ := by rw [ho, hv, heb]; exact ok302 _ _ hb rfl
 cbv
 rw [c1]; cbv
 rw [hQ]; cbv
 exact congrArg some hr
theorem ok309 (l : List Ext) (b : List Int) (hl : l.length ≤ 1073741824) (hb' : b.length ≤ 1073741824) (w : ∀ y ∈ l, y.body.length ≤ 1099511627776) {f0 f1 : Fl} (h0 : inFl f0 = true) (h1 : inFl f1 = true) : fix Tb md 309 [R (row fExt l) f0, R (row fI b) f1] = some ⟨[R (row fExt (sel (tagIn b) idE l)) (.ow false)], [], none⟩ := by
 obtain ⟨et, het⟩ := nm (row fExt (sel (tagIn b) idE l))
 rw [← het]
 generalize hr : (⟨_, [], none⟩ : Ret) = r
 obtain ⟨ea, hea⟩ := nm (row fExt l)
 obtain ⟨eb, heb⟩ := nm (row fI b)
 rw [← hea, ← heb]
 refine fix_fn2 (fn := ir309) tb_309 rfl rfl (by decide) rfl ?_; intro Q hQ; simp only [shutArgs, shutS, List.map_cons, List.map_nil, ir309, shut_in h0, shut_in h1, List.head?_nil, reduceCtorEq, if_false, sExt, sHello, sAnswer, sEdit, sDeal, sBox, sDialed, sKnown]
 intro add sub mul arith eq ne lt le gt ge neg conv mn mx not beq len at' ln bd cut app allS isNil mks set o hP F ho
 have c1 : o 264 [R ea (.sp 0 0), ⟨.val, [⟨.fn 357 [.ptr () [.row () eb]], .sh⟩]⟩] = some ⟨[R et (.ow false)], [], none⟩ := by
  rw [ho, het, hea, heb]
  exact ok264_1 357 rfl _ (fun n => hasI b n) l hl w (fun x _ => ok357 x.tag b (by omega)) rfl
 cbv
 rw [c1]; cbv
 rw [hQ]; cbv
 exact congrArg some hr
theorem ok169r (vs tg : List Int) (h : Hello) (hv : vs.length ≤ 1073741824) (ht : tg.length ≤ 1073741824) (mh : h.Mid) {f0 f1 f2 f3 : Fl} (q0 : inFl f0 = true) (q1 : inFl f1 = true) (q2 : inFl f2 = true) (q3 : inFl f3 = true) (r : Ret)
  (rA' : caOk vs h = true → (⟨[sAnswer (caV vs tg h).version (row fExt (caV vs tg h).exts) (.ow false), B true], [], none⟩ : Ret) = r) (rC' : caOk vs h = false → (⟨[sAnswer 0 [] .nl, B false], [], none⟩ : Ret) = r) :
  fix Tb md 169 [R (row fI vs) f0, R (row fI tg) f1, sHello (row fI h.versions) (row fExt h.exts) f2 f3] = some r := by
 have mh' := mh
 unfold Hello.Mid at mh'
 have hvl := mh'.1
 have hxl := mh'.2.1
 have wh : ∀ y ∈ h.exts, y.body.length ≤ 1099511627776 := fun y hy => Nat.le_trans (show y.body.length ≤ 1073741824 from mh'.2.2 y hy) (by decide)
 obtain ⟨u, hu⟩ := nm (isHel h)
 obtain ⟨n, hn⟩ := nm (bestC vs h.versions)
 obtain ⟨K, hK⟩ := nm (sel (tagIn tg) idE h.exts)
 obtain ⟨Z, hZ⟩ := nm (sel notRes idE K)
 have hKl : K.length ≤ 1073741824 := by rw [hK]; exact Nat.le_trans sel_len hxl
 have wK : ∀ y ∈ K, y.body.length ≤ 1099511627776 := fun y hy => wh y (by rw [hK, sel_idE] at hy; exact (List.mem_filter.1 hy).1)
 have hok : caOk vs h = (u && !decide (n = 0)) := by rw [hu, hn]; rfl
 have rA : u = true → decide (n = 0) = false → (⟨[sAnswer n (row fExt Z) (.ow false), B true], [], none⟩ : Ret) = r := fun q1 q2 => by
  have hk : caOk vs h = true := by rw [hok, q1, q2]; rfl
  rw [← rA' hk, show caV vs tg h = ⟨n, Z⟩ by rw [caV, hk, if_pos rfl, hn, hZ, hK]; rfl]
 have rC : u = false ∨ decide (n = 0) = true → (⟨[sAnswer 0 [] .nl, B false], [], none⟩ : Ret) = r := fun q => rC' (by rcases q with q | q <;> rw [hok, q] <;> simp)
 clear rA' rC' hok
 obtain ⟨ev, hev⟩ := nm (row fI vs)
 obtain ⟨et, het⟩ := nm (row fI tg)
 obtain ⟨dv, hdv⟩ := nm (row fI h.versions)
 obtain ⟨dx, hdx⟩ := nm (row fExt h.exts)
 rw [← hev, ← het, ← hdv, ← hdx]
 obtain ⟨ek, hek⟩ := nm (row fExt K)
 obtain ⟨ez, hez⟩ := nm (row fExt Z)
 rw [← hez] at rA
 refine fix_fn2 (fn := ir169) tb_169 rfl rfl (by decide) rfl ?_; intro Q hQ; simp only [shutArgs, shutS, List.map_cons, List.map_nil, ir169, shut_in q0, shut_in q1, shut_in q2, shut_in q3, List.head?_nil, reduceCtorEq, if_false, sExt, sHello, sAnswer, sEdit, sDeal, sBox, sDialed, sKnown]
 intro add sub mul arith eq ne lt le gt ge neg conv mn mx not beq len at' ln bd cut app allS isNil mks set o hP F ho
 have c1 : o 111 [R ev (.sp 0 0), R dv (.sp 1 0)] = some ⟨[I n], [], none⟩ := by rw [ho, hn, hev, hdv]; exact ok111 _ _ hv hvl rfl rfl
 have c2 : o 113 [sHello dv dx (.sp 0 0) (.sp 0 1)] = some ⟨[B u], [], none⟩ := by rw [ho, hu, hdv, hdx]; exact ok113 _ (by omega) (by omega) wh rfl rfl
 have c3 : o 309 [R dx (.sp 0 0), R et (.sp 1 0)] = some ⟨[R ek (.ow false)], [], none⟩ := by rw [ho, hek, hK, hdx, het]; exact ok309 _ _ hxl ht wh rfl rfl
 have c4 : o 308 [R ek (.sp 0 0)] = some ⟨[R ez (.ow false)], [], none⟩ := by rw [ho, hez, hZ, hek]; exact ok308 _ hKl wK rfl
 have g1 : eq n 0 = decide (n = 0) := F.eq ..
 cbv
 rw [c1]; cbv
 rw [c2]; cbv
 refine both (fun d1 => ?_) (fun d1 => ?_) <;> rw [d1] <;> cbv
 ·rw [hQ]; cbv
  exact congrArg some (rC (.inl (F.not_t d1)))
 refine both (fun d2 => ?_) (fun d2 => ?_) <;> rw [d2] <;> cbv
 ·rw [hQ]; cbv
  exact congrArg some (rC (.inr (by rw [← g1, d2])))
 rw [c3]; cbv
 rw [c4]; cbv
 rw [hQ]; cbv
 exact congrArg some (rA (F.not_f d1) (by rw [← g1, d2]))
theorem ok169a (vs tg : List Int) (h : Hello) (hv : vs.length ≤ 1073741824) (ht : tg.length ≤ 1073741824) (mh : h.Mid) {f0 f1 f2 f3 : Fl} (q0 : inFl f0 = true) (q1 : inFl f1 = true) (q2 : inFl f2 = true) (q3 : inFl f3 = true) (q : caOk vs h = true) :
  fix Tb md 169 [R (row fI vs) f0, R (row fI tg) f1, sHello (row fI h.versions) (row fExt h.exts) f2 f3] = some ⟨[sAnswer (caV vs tg h).version (row fExt (caV vs tg h).exts) (.ow false), B true], [], none⟩ :=
 ok169r vs tg h hv ht mh q0 q1 q2 q3 _ (fun _ => rfl) (fun e => by rw [q] at e; cases e)
theorem ok169b (vs tg : List Int) (h : Hello) (hv : vs.length ≤ 1073741824) (ht : tg.length ≤ 1073741824) (mh : h.Mid) {f0 f1 f2 f3 : Fl} (q0 : inFl f0 = true) (q1 : inFl f1 = true) (q2 : inFl f2 = true) (q3 : inFl f3 = true) (q : caOk vs h = false) :
  fix Tb md 169 [R (row fI vs) f0, R (row fI tg) f1, sHello (row fI h.versions) (row fExt h.exts) f2 f3] = some ⟨[sAnswer 0 [] .nl, B false], [], none⟩ :=
 ok169r vs tg h hv ht mh q0 q1 q2 q3 _ (fun e => by rw [q] at e; cases e) (fun _ => rfl)
theorem ok169 (vs tg : List Int) (h : Hello) (hv : vs.length ≤ 1073741824) (ht : tg.length ≤ 1073741824) (mh : h.Mid) {f0 f1 f2 f3 : Fl} (q0 : inFl f0 = true) (q1 : inFl f1 = true) (q2 : inFl f2 = true) (q3 : inFl f3 = true) :
  fix Tb md 169 [R (row fI vs) f0, R (row fI tg) f1, sHello (row fI h.versions) (row fExt h.exts) f2 f3] = some ⟨[sAnswer (caV vs tg h).version (row fExt (caV vs tg h).exts) (.ow false), B (caOk vs h)], [], none⟩ ∨
  ((caV vs tg h).exts = [] ∧ fix Tb md 169 [R (row fI vs) f0, R (row fI tg) f1, sHello (row fI h.versions) (row fExt h.exts) f2 f3] = some ⟨[sAnswer (caV vs tg h).version [] .nl, B (caOk vs h)], [], none⟩) := by
 cases q : caOk vs h with
 | true => exact .inl (ok169a vs tg h hv ht mh q0 q1 q2 q3 q)
 | false =>
  rw [show caV vs tg h = ⟨0, []⟩ by rw [caV, q]; rfl]
  exact .inr ⟨rfl, ok169b vs tg h hv ht mh q0 q1 q2 q3 q⟩
end Go.Vm
