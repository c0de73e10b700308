/- What the functions answer. -/
import Derived.Test.YtijojkfdbpiimaaGTTab
import Derived.Test.YtijojkfdbpiimaaGTFA
set_option maxHeartbeats 4000000
set_option maxRecDepth 10000
set_option linter.unusedVariables false
set_option linter.unusedSimpArgs false
namespace Go.Vm
theorem ok304 (ls : List (List Int)) (h1 : ls.length ≤ 1099511627776) (h2 : ls.flatten.length ≤ 1099511627776) (h3 : ls.flatten ≠ []) {f0 : Fl} (q0 : inFl f0 = true) : fix Tb md 304 [R (row fR ls) f0] = some ⟨[R (row fI ls.flatten) (.ow false)], [], none⟩ := by
 obtain ⟨et, het⟩ := nm (row fI ls.flatten)
 rw [← het]
 generalize hr : (⟨_, [], none⟩ : Ret) = r
 have h4 : 0 < ls.flatten.length := List.length_pos_iff.2 h3
 obtain ⟨N, hN⟩ := nm (ls.flatten.length)
 rw [← hN] at h2 h4
 obtain ⟨ea, hea⟩ := nm (row fR ls)
 rw [← hea]
 refine fix_fn2 (fn := ir304) tb_304 rfl rfl (by decide) rfl ?_; intro Q hQ; simp only [shutArgs, shutS, List.map_cons, List.map_nil, ir304, shut_in q0, List.head?_nil, reduceCtorEq, if_false, sExt, sHello, sAnswer, sEdit, sDeal, sBox, sDialed, sKnown]
 intro add sub mul arith eq ne lt le gt ge neg conv mn mx not beq len at' ln bd cut app allS isNil mks set o hP F ho
 have la := F.len_at hea
 cbv
 refine loop_ind2 hP (σ := List (List Int) × List (List Int) × Int × Int × Option (List (List V))) (fun s => match s.2.2.2.2 with
  | none => [(0, R ea .sh), (2, R [] .nl), (3, I s.2.2.1), (9, R ea .sh), (10, I (len ea)), (11, I s.2.2.2.1)]
  | some j => [(0, R ea .sh), (2, R [] .nl), (3, I s.2.2.1), (5, R j .sh), (9, R ea .sh), (10, I (len ea)), (11, I s.2.2.2.1)]) (fun s => At s.2.2.2.1 s.2.1.length ∧ ls = s.2.1 ++ s.1 ∧ At s.2.2.1 s.2.1.flatten.length ∧ (s.2.2.2.2 = none → s.2.1 = [])) (fun s => s.1.length) (ls, [], 0, 0, none) rfl ⟨rfl, rfl, rfl, fun _ => rfl⟩ ?_
 intro c9 Q1 hc9 hQ1
 rintro ⟨suf, pre, n, i, j⟩ ⟨hi, hl', hb, hj⟩ ih
 simp only at hi hl' hb hj ih
 cases suf with
 | nil =>
  have hpp : ls = pre := by rw [hl', List.append_nil]
  cases j with
  | none => exfalso; have := hj rfl; rw [this] at hpp; rw [hpp] at hN; simp at hN; omega
  | some je =>
   cbv
   rw [F.lt_f hi la (by simp [hl'])]; cbv
   rw [hQ1]; cbv
   have hn1 : 0 < n ∧ n ≤ 1099511627776 := by unfold At at hb; rw [← hpp, ← hN] at hb; omega
   have c1 : o 355 [R [] .nl, I n] = some ⟨[R [] (.ow true)], [], none⟩ := by rw [ho]; exact ok355 n hn1.1 hn1.2
   rw [c1]; cbv
   clear ih hj hQ1 hc9
   refine loop_ind2 hP (σ := List (List Int) × List (List Int) × List (List V) × Int × Option (List (List V) × Bool)) (fun s => match s.2.2.2.2 with
    | none => [(0, R ea .sh), (2, R [] .nl), (3, I n), (5, R je .sh), (6, R s.2.2.1 (.ow true)), (9, R ea .sh), (10, I (len ea)), (11, I i), (25, R ea .sh), (26, I (len ea)), (27, I s.2.2.2.1)]
    | some (k, true) => [(0, R ea .sh), (2, R [] .nl), (3, I n), (5, R je .sh), (6, R s.2.2.1 (.ow true)), (8, R k .sh), (9, R ea .sh), (10, I (len ea)), (11, I i), (25, R ea .sh), (26, I (len ea)), (27, I s.2.2.2.1)]
    | some (k, false) => [(0, R ea .sh), (2, R [] .nl), (3, I n), (5, R je .sh), (6, R s.2.2.1 (.ow false)), (8, R k .sh), (9, R ea .sh), (10, I (len ea)), (11, I i), (25, R ea .sh), (26, I (len ea)), (27, I s.2.2.2.1)]) (fun s => At s.2.2.2.1 s.2.1.length ∧ ls = s.2.1 ++ s.1 ∧ s.2.2.1 = row fI s.2.1.flatten ∧ (match s.2.2.2.2 with | some (_, false) => True | _ => s.2.1.flatten = [])) (fun s => s.1.length) (ls, [], [], 0, none) rfl ⟨rfl, rfl, rfl, rfl⟩ ?_
   intro c8 Q2 hc8 hQ2
   rintro ⟨suf, pre, eo, m, k⟩ ⟨hm, hk', he, hg⟩ ih
   simp only at hm hk' he hg ih
   rcases k with _ | ⟨kk, _ | _⟩
   all_goals
    simp only at hg
    cases suf with
    | nil =>
     have hp2 : ls = pre := by rw [hk', List.append_nil]
     first
      | (exfalso; rw [hp2, hg] at hN; simp at hN; omega)
      | (cbv
         rw [F.lt_f hm la (by simp [hk'])]; cbv
         rw [hQ2]; cbv
         rw [hQ]; cbv
         rw [← hr, het, he, hp2])
    | cons x suf =>
     have hpl : pre.flatten.length + x.length ≤ 1099511627776 := by
      have : ls.flatten.length = pre.flatten.length + (x.length + suf.flatten.length) := by rw [hk']; simp
      omega
     have hpr : pre.length < ls.length := by rw [hk']; simp
     obtain ⟨ix, hix⟩ := nm (pre.length * 1)
     obtain ⟨e1, he1⟩ := nm (row fI x)
     have p0 : at' 1 ea m = some (ix, [.row () e1]) := by rw [hix, he1]; exact F.get hm hea hk' (fun _ => rfl) (by decide)
     have p1 : allS e1 = true := F.scal he1 (fun _ => rfl)
     have p3 : isNil e1 = x.isEmpty := F.nil he1
     obtain ⟨eo', heo'⟩ := nm (row fI (pre ++ [x]).flatten)
     have p2 : app 1 eo e1 = some eo' := by
      rw [heo']
      have := F.app' (k := 1) he he1 (fun _ => rfl) hpl
      rw [this]; simp
     have hm' : At (add .i64 m 1) (pre ++ [x]).length := at_len (F.inc hm (by omega)) (by simp)
     have hk2 : ls = (pre ++ [x]) ++ suf := by rw [hk']; simp
     cbv
     rw [F.lt_t hm la (by simp [hk'])]; cbv
     rw [p0]; cbv
     rw [p1]; cbv
     rw [p2]; cbv
     first
      | (refine ih (suf, pre ++ [x], eo', add .i64 m 1, some (e1, false)) ⟨hm', hk2, heo', trivial⟩ (by simp))
      | (rw [p1]; cbv
         rw [p3]
         cases x with
         | nil => cbv; exact ih (suf, pre ++ [[]], eo', add .i64 m 1, some (e1, true)) ⟨hm', hk2, heo', by simp only; rw [List.flatten_append, hg]; rfl⟩ (by simp)
         | cons a x => cbv; exact ih (suf, pre ++ [a :: x], eo', add .i64 m 1, some (e1, false)) ⟨hm', hk2, heo', trivial⟩ (by simp))
 | cons x suf =>
  have hpl : pre.flatten.length + x.length ≤ 1099511627776 := by
   have : ls.flatten.length = pre.flatten.length + (x.length + suf.flatten.length) := by rw [hl']; simp
   omega
  have hpr : pre.length < ls.length := by rw [hl']; simp
  obtain ⟨ix, hix⟩ := nm (pre.length * 1)
  obtain ⟨e1, he1⟩ := nm (row fI x)
  have lx := F.len_at he1
  have p0 : at' 1 ea i = some (ix, [.row () e1]) := by rw [hix, he1]; exact F.get hi hea hl' (fun _ => rfl) (by decide)
  have hb' : At (add .i64 n (len e1)) (pre ++ [x]).flatten.length := by
   unfold At at *
   rw [F.add, hb, lx, wrap64 (by omega) (by omega)]; simp
  have g1 : lt (add .i64 n (len e1)) 0 = false := F.lt_f hb' at0 (Nat.zero_le _)
  have hi' : At (add .i64 i 1) (pre ++ [x]).length := at_len (F.inc hi (by omega)) (by simp)
  have hl2 : ls = (pre ++ [x]) ++ suf := by rw [hl']; simp
  rcases j with _ | _
  all_goals
   cbv
   rw [F.lt_t hi la (by simp [hl'])]; cbv
   rw [p0]; cbv
   rw [g1]; cbv
   exact ih (suf, pre ++ [x], add .i64 n (len e1), add .i64 i 1, some e1) ⟨hi', hl2, hb', by simp⟩ (by simp)
theorem ok284 (k : Int) (l : List Int) (hl : l.length ≤ 1073741824) {f0 : Fl} (q0 : inFl f0 = true) : fix Tb md 284 [I k, R (row fI l) f0] = some ⟨[I (khash k l)], [], none⟩ := by
 obtain ⟨T, hT⟩ := nm (khash k l)
 rw [← hT]
 generalize hr : (⟨_, [], none⟩ : Ret) = r
 obtain ⟨ea, hea⟩ := nm (row fI l)
 rw [← hea]
 obtain ⟨e2, he2⟩ := nm (row fI (k :: l ++ [k]))
 refine fix_fn2 (fn := ir284) tb_284 rfl rfl (by decide) rfl ?_; intro Q hQ; simp only [shutArgs, shutS, List.map_cons, List.map_nil, ir284, shut_in q0, List.head?_nil, reduceCtorEq, if_false, sExt, sHello, sAnswer, sEdit, sDeal, sBox, sDialed, sKnown]
 intro add sub mul arith eq ne lt le gt ge neg conv mn mx not beq len at' ln bd cut app allS isNil mks set o hP F ho
 have c0 : o 304 [R [[.row () [[.int .i64 k]]], [.row () ea], [.row () [[.int .i64 k]]]] (.sp 0 0)] = some ⟨[R e2 (.ow false)], [], none⟩ := by
  rw [ho, he2, hea]
  have := ok304 [[k], l, [k]] (by simp) (by simp; omega) (by simp) (f0 := .sp 0 0) rfl
  simpa [row, fR, fI] using this
 have c1 : o 269 [R e2 (.sp 0 0)] = some ⟨[I T], [], none⟩ := by rw [ho, he2, hT]; exact ok269 _ (by simp; omega) rfl
 cbv
 rw [c0]; cbv
 rw [c1]; cbv
 rw [hQ]; cbv
 exact congrArg some hr
theorem ok144 (k : Int) (l : List (List Int)) (s : Int) (w : l.length ≤ 1048576 ∧ ∀ y ∈ l, y.length ≤ 1048576) {f0 : Fl} (q0 : inFl f0 = true) : fix Tb md 144 [I k, R (row fR l) f0, I s] = some ⟨[I (finV k l s)], [], none⟩ := by
 obtain ⟨a, ha⟩ := nm (vKey k)
 obtain ⟨b, hb⟩ := nm (isTr l)
 obtain ⟨c, hc⟩ := nm (inR s 0 1)
 obtain ⟨n, hn⟩ := nm (thash l)
 obtain ⟨m, hm⟩ := nm (khash k [s, n])
 rw [show finV k l s = if a && b && c then m else 0 by rw [ha, hb, hc, hm, hn]; rfl]
 generalize hr : (⟨_, [], none⟩ : Ret) = r
 obtain ⟨el, hel⟩ := nm (row fR l)
 rw [← hel]
 refine fix_fn2 (fn := ir144) tb_144 rfl rfl (by decide) rfl ?_; intro Q hQ; simp only [shutArgs, shutS, List.map_cons, List.map_nil, ir144, shut_in q0, List.head?_nil, reduceCtorEq, if_false, sExt, sHello, sAnswer, sEdit, sDeal, sBox, sDialed, sKnown]
 intro add sub mul arith eq ne lt le gt ge neg conv mn mx not beq len at' ln bd cut app allS isNil mks set o hP F ho
 have c1 : o 114 [I k] = some ⟨[B a], [], none⟩ := by rw [ho, ha]; exact ok114 ..
 have c2 : o 73 [R el (.sp 0 0)] = some ⟨[B b], [], none⟩ := by rw [ho, hb, hel]; exact ok73 _ w rfl
 have c3 : o 232 [I s, I 0, I 1] = some ⟨[B c], [], none⟩ := by rw [ho, hc]; exact ok232 ..
 have c4 : o 121 [R el (.sp 0 0)] = some ⟨[I n], [], none⟩ := by rw [ho, hn, hel]; exact ok121 _ w rfl
 have c5 : o 284 [I k, R [[.int .i64 s], [.int .i64 n]] (.sp 1 0)] = some ⟨[I m], [], none⟩ := by rw [ho, hm]; exact ok284 k [s, n] (by simp) rfl
 cbv
 rw [c1]; cbv
 refine both (fun d1 => ?_) (fun d1 => ?_) <;> rw [d1] <;> cbv
 ·rw [hQ]; cbv
  rw [← hr, F.not_t d1]; rfl
 rw [c2]; cbv
 refine both (fun d2 => ?_) (fun d2 => ?_) <;> rw [d2] <;> cbv
 ·rw [hQ]; cbv
  rw [← hr, F.not_f d1, F.not_t d2]; rfl
 rw [c3]; cbv
 refine both (fun d3 => ?_) (fun d3 => ?_) <;> rw [d3] <;> cbv
 ·rw [hQ]; cbv
  rw [← hr, F.not_f d1, F.not_f d2, F.not_t d3]; rfl
 rw [c4]; cbv
 rw [c5]; cbv
 rw [hQ]; cbv
 rw [← hr, F.not_f d1, F.not_f d2, F.not_f d3]; rfl
theorem ok145 (k : Int) (l : List (List Int)) (s f : Int) (w : l.length ≤ 1048576 ∧ ∀ y ∈ l, y.length ≤ 1048576) {f0 : Fl} (q0 : inFl f0 = true) : fix Tb md 145 [I k, R (row fR l) f0, I s, I f] = some ⟨[B (chkV k l s f)], [], none⟩ := by
 obtain ⟨n, hn⟩ := nm (finV k l s)
 obtain ⟨a, ha⟩ := nm (decide (f = 0))
 obtain ⟨b, hb⟩ := nm (decide (n = f))
 rw [show chkV k l s f = (!a && b) by rw [ha, hb, hn]; rfl]
 generalize hr : (⟨_, [], none⟩ : Ret) = r
 obtain ⟨el, hel⟩ := nm (row fR l)
 rw [← hel]
 refine fix_fn2 (fn := ir145) tb_145 rfl rfl (by decide) rfl ?_; intro Q hQ; simp only [shutArgs, shutS, List.map_cons, List.map_nil, ir145, shut_in q0, List.head?_nil, reduceCtorEq, if_false, sExt, sHello, sAnswer, sEdit, sDeal, sBox, sDialed, sKnown]
 intro add sub mul arith eq ne lt le gt ge neg conv mn mx not beq len at' ln bd cut app allS isNil mks set o hP F ho
 have c1 : o 143 [I k, R el (.sp 1 0), I s] = some ⟨[I n], [], none⟩ := by rw [ho, hn, hel]; exact ok143 k l s w rfl
 have g1 : ne f 0 = !a := by rw [F.ne, ha]; simp
 have g2 : eq n f = b := by rw [F.eq, hb]
 cbv
 rw [g1]
 refine both (fun d1 => ?_) (fun d1 => ?_) <;> rw [d1] <;> cbv
 ·rw [c1]; cbv
  rw [g2]; cbv
  rw [hQ]; cbv
  rw [← hr, d1]; rfl
 ·rw [hQ]; cbv
  rw [← hr, d1]; rfl
theorem ok146 (k : Int) (l : List (List Int)) (s f : Int) (w : l.length ≤ 1048576 ∧ ∀ y ∈ l, y.length ≤ 1048576) {f0 : Fl} (q0 : inFl f0 = true) : fix Tb md 146 [I k, R (row fR l) f0, I s, I f] = some ⟨[B (chkV k l s f)], [], none⟩ := by
 obtain ⟨n, hn⟩ := nm (finV k l s)
 obtain ⟨a, ha⟩ := nm (decide (f = 0))
 obtain ⟨b, hb⟩ := nm (decide (n = f))
 rw [show chkV k l s f = (!a && b) by rw [ha, hb, hn]; rfl]
 generalize hr : (⟨_, [], none⟩ : Ret) = r
 obtain ⟨el, hel⟩ := nm (row fR l)
 rw [← hel]
 refine fix_fn2 (fn := ir146) tb_146 rfl rfl (by decide) rfl ?_; intro Q hQ; simp only [shutArgs, shutS, List.map_cons, List.map_nil, ir146, shut_in q0, List.head?_nil, reduceCtorEq, if_false, sExt, sHello, sAnswer, sEdit, sDeal, sBox, sDialed, sKnown]
 intro add sub mul arith eq ne lt le gt ge neg conv mn mx not beq len at' ln bd cut app allS isNil mks set o hP F ho
 have c1 : o 144 [I k, R el (.sp 1 0), I s] = some ⟨[I n], [], none⟩ := by rw [ho, hn, hel]; exact ok144 k l s w rfl
 have g1 : ne f 0 = !a := by rw [F.ne, ha]; simp
 have g2 : eq f n = b := by rw [F.eq, hb]; simp [eq_comm]
 cbv
 rw [g1]
 refine both (fun d1 => ?_) (fun d1 => ?_) <;> rw [d1] <;> cbv
 ·rw [c1]; cbv
  rw [g2]; cbv
  rw [hQ]; cbv
  rw [← hr, d1]; rfl
 ·rw [hQ]; cbv
  rw [← hr, d1]; rfl
def seedGo : List Int → Nat → Int → Int
 | [], _, h => h
 | x :: l, n, h => if n < 4000 then seedGo l (n + 1) (bitI .and (w64 (w64 (w64 (h * 137) + w64 x) + 11)) 1073741823) else h
def newC (l : List Int) : Cur := ⟨l, 0, seedGo l 0 (w64 (193017 + (l.length : Int)))⟩
theorem newC_ok {l : List Int} (h : l.length ≤ 1048576) : (newC l).Ok := ⟨Nat.zero_le _, h⟩
theorem ok246 (l : List Int) (hl : l.length ≤ 1048576) : fix Tb md 246 [R (row fU l) (.sp 0 0)] = some ⟨[sCur (row fU l) .no 0 (newC l).h], [], none⟩ := by
 obtain ⟨T, hT⟩ := nm (newC l).h
 rw [← hT]
 generalize hr : (⟨_, [], none⟩ : Ret) = r
 obtain ⟨ea, hea⟩ := nm (row fU l)
 rw [← hea] at hr ⊢
 obtain ⟨h0', hh0'⟩ := nm (w64 (193017 + (l.length : Int)))
 have hT' : seedGo l 0 h0' = T := by rw [hT, hh0']; rfl
 have h0 : inFl (.sp 0 0) = true := rfl
 refine fix_fn2 (fn := ir246) tb_246 rfl rfl (by decide) rfl ?_; intro Q hQ; simp only [shutArgs, shutS, List.map_cons, List.map_nil, ir246, shut_in h0, List.head?_nil, reduceCtorEq, if_false, sExt, sHello, sAnswer, sEdit, sDeal, sBox, sDialed, sKnown]
 intro add sub mul arith eq ne lt le gt ge neg conv mn mx not beq len at' ln bd cut app allS isNil mks set o hP F ho
 have la := F.len_at hea
 have g0 : add .i64 193017 (len ea) = h0' := by rw [F.add, hh0', la]; rfl
 cbv
 rw [g0]
 refine loop_ind2 hP (σ := List Int × List Int × Int × Int) (fun s => [(0, R ea .sh), (3, I s.2.2.1), (4, I s.2.2.2)]) (fun s => At s.2.2.2 s.2.1.length ∧ l = s.2.1 ++ s.1 ∧ seedGo s.1 s.2.1.length s.2.2.1 = T) (fun s => s.1.length) (l, [], h0', 0) rfl ⟨rfl, rfl, hT'⟩ ?_
 intro c9 Q1 hc9 hQ1
 rintro ⟨suf, pre, h, i⟩ ⟨hi, hl', hb⟩ ih
 simp only at hi hl' hb ih
 cbv
 cases suf with
 | nil =>
  have hhT : h = T := hb
  rw [F.lt_f hi la (by simp [hl'])]; cbv
  rw [hQ1]; cbv
  rw [hhT, hQ]; cbv
  exact congrArg some hr
 | cons x suf =>
  have hpl : pre.length ≤ 1048576 := by rw [hl'] at hl; simp at hl; omega
  have g1 : lt i 4000 = decide (pre.length < 4000) := F.lt_n hi (k := 4000) (m := 4000) rfl
  unfold seedGo at hb
  rw [F.lt_t hi la (by simp [hl'])]; cbv
  refine both (fun d1 => ?_) (fun d1 => ?_) <;> rw [d1] <;> cbv
  ·rw [g1, decide_eq_true_eq] at d1
   rw [if_pos d1] at hb
   obtain ⟨ix, hix⟩ := nm (pre.length * 1)
   have p0 : at' 1 ea i = some (ix, [.int .u8 x]) := by rw [hix]; exact F.get hi hea hl' (fun _ => rfl) (by decide)
   obtain ⟨h1, hh1⟩ := nm (w64 (h * 137))
   obtain ⟨y, hy⟩ := nm (w64 x)
   obtain ⟨h2, hh2⟩ := nm (w64 (h1 + y))
   obtain ⟨h3, hh3⟩ := nm (w64 (h2 + 11))
   obtain ⟨h4, hh4⟩ := nm (bitI .and h3 1073741823)
   rw [← hh1, ← hy, ← hh2, ← hh3, ← hh4] at hb
   have g2 : mul .i64 h 137 = h1 := by rw [F.mul, hh1]; rfl
   have g3 : conv .i64 x = y := by rw [F.conv, hy]; rfl
   have g4 : add .i64 h1 y = h2 := by rw [F.add, hh2]; rfl
   have g5 : add .i64 h2 11 = h3 := by rw [F.add, hh3]; rfl
   have g6 : arith .and .i64 h3 1073741823 = some (.int .i64 h4) := by rw [F.arith, hh4]; rfl
   rw [p0]; cbv
   rw [g2, g3, g4, g5, g6]; cbv
   exact ih (suf, pre ++ [x], h4, add .i64 i 1) ⟨at_len (F.inc hi (by omega)) (by simp), by rw [hl']; simp, by simpa using hb⟩ (by simp)
  ·rw [g1, decide_eq_false_iff_not] at d1
   have hhT : h = T := by rw [if_neg d1] at hb; exact hb
   rw [hQ1]; cbv
   rw [hhT, hQ]; cbv
   exact congrArg some hr
theorem ok3361 (c : Cur) (q : c.Ok) : fix Tb md 3361 [sCur (row fU c.b) (.sp 0 0) c.ii c.h] = some ⟨[I (byteV c)], [], some (vCur (row fU c.b) (byteC c).ii (byteC c).h)⟩ := by
 obtain ⟨b, i, h⟩ := c
 have q1 := q.1
 have q2 := q.2
 simp only at q1 q2
 obtain ⟨h1, hh1⟩ := nm (w64 (h * 6364136223846793005))
 obtain ⟨h2, hh2⟩ := nm (w64 (h1 + 1442695040888963407))
 have hh3 : stepH h = h2 := by unfold stepH; rw [← hh1, ← hh2]
 obtain ⟨s1, hs1⟩ := nm (shrI h2 33)
 obtain ⟨s2, hs2⟩ := nm (shrI h2 47)
 obtain ⟨x1, hx1⟩ := nm (bitI .xor s1 s2)
 obtain ⟨x2, hx2⟩ := nm (bitI .and x1 255)
 have hm : mixH h2 = x2 := by unfold mixH; rw [← hs1, ← hs2, ← hx1, ← hx2]
 obtain ⟨ii, hii⟩ := nm ((i : Int))
 have r2 := and255 x1
 rw [← hx2] at r2
 suffices hmain : ∀ r, (∀ x, b[i]? = some x → (⟨[I (bitI .and (w64 (x2 + w64 x)) 255)], [], some (vCur (row fU b) (ii + 1) h2)⟩ : Ret) = r) → (b[i]? = none → (⟨[I x2], [], some (vCur (row fU b) ii h2)⟩ : Ret) = r) → fix Tb md 3361 [sCur (row fU b) (.sp 0 0) ii h] = some r by
  rw [hii] at hmain
  refine hmain _ (fun x hx => ?_) (fun hx => ?_)
  ·unfold byteV byteC; simp only [hx, hh3, hm]; simp [Cur.ii]
  ·unfold byteV byteC; simp only [hx, hh3, hm, Cur.ii]
 intro r rA rB
 obtain ⟨eb, heb⟩ := nm (row fU b)
 rw [← heb] at rA rB ⊢
 refine fix_bx (fn := ir3361) tb_3361 rfl rfl rfl (by decide) ?_; intro Q hQ; simp only [List.map_nil, ir3361]
 intro add sub mul arith eq ne lt le gt ge neg conv mn mx not beq len at' ln bd cut app allS isNil mks set o hP F ho
 have lb := F.len_at heb
 have hi : At ii i := hii
 have g1 : mul .i64 h 6364136223846793005 = h1 := by rw [F.mul, hh1]; rfl
 have g2 : add .i64 h1 1442695040888963407 = h2 := by rw [F.add, hh2]; rfl
 have g3 : arith .shr .i64 h2 33 = some (.int .i64 s1) := by rw [F.arith, hs1]; rfl
 have g4 : arith .shr .i64 h2 47 = some (.int .i64 s2) := by rw [F.arith, hs2]; rfl
 have g5 : arith .xor .i64 s1 s2 = some (.int .i64 x1) := by rw [F.arith, hx1]; rfl
 have g6 : arith .and .i64 x1 255 = some (.int .i64 x2) := by rw [F.arith, hx2]; rfl
 cbv
 rw [g1, g2]; cbv
 rw [g3]; cbv
 rw [g4]; cbv
 rw [g5]; cbv
 rw [g6]; cbv
 by_cases hlt : i < b.length
 ·obtain ⟨pre, x, suf, hb, hp⟩ : ∃ pre x suf, b = pre ++ x :: suf ∧ pre.length = i := ⟨b.take i, b[i], b.drop (i + 1), by simp, by simp; omega⟩
  have hx : b[i]? = some x := by rw [hb, ← hp]; simp
  obtain ⟨ix, hix⟩ := nm (pre.length * 1)
  have p0 : at' 1 eb ii = some (ix, [.int .u8 x]) := by rw [hix]; exact F.get (by rw [hp]; exact hi) heb hb (fun _ => rfl) (by decide)
  obtain ⟨y, hy⟩ := nm (w64 x)
  obtain ⟨x3, hx3⟩ := nm (w64 (x2 + y))
  obtain ⟨x4, hx4⟩ := nm (bitI .and x3 255)
  have g7 : conv .i64 x = y := by rw [F.conv, hy]; rfl
  have g8 : add .i64 x2 y = x3 := by rw [F.add, hx3]; rfl
  have g9 : arith .and .i64 x3 255 = some (.int .i64 x4) := by rw [F.arith, hx4]; rfl
  have hb0 : 0 ≤ ii ∧ ii ≤ 1048576 := by
   rw [hii]
   exact ⟨Int.natCast_nonneg i, Int.ofNat_le.2 (Nat.le_trans q1 q2)⟩
  have g10 : add .i64 ii 1 = ii + 1 := by rw [F.add, wrap64 (by omega) (by omega)]
  rw [F.lt_t hi lb hlt]; cbv
  rw [p0]; cbv
  rw [g7, g8]; cbv
  rw [g9]; cbv
  rw [g10, hQ]; cbv
  exact congrArg some (by rw [hx4, hx3, hy]; exact rA x hx)
 ·rw [F.lt_f hi lb (by omega)]; cbv
  rw [hQ]; cbv
  exact congrArg some (rB (List.getElem?_eq_none (by omega)))
theorem ok3317 (c : Cur) (q : c.Ok) (n : Int) (h0 : 0 < n) (h1 : n ≤ 256) : fix Tb md 3317 [sCur (row fU c.b) (.sp 0 0) c.ii c.h, I n] = some ⟨[I (belowV n c)], [], some (vCur (row fU c.b) (byteC c).ii (byteC c).h)⟩ := by
 have k1 := ok3361 c q
 obtain ⟨x, hx⟩ := nm (byteV c)
 obtain ⟨y, hy⟩ := nm (belowV n c)
 have hy2 : y = Int.tmod x n := by rw [hy, hx]; rfl
 obtain ⟨i, hi⟩ := nm (c.ii)
 obtain ⟨h, hh⟩ := nm (c.h)
 obtain ⟨i', hi'⟩ := nm ((byteC c).ii)
 obtain ⟨h', hh'⟩ := nm ((byteC c).h)
 rw [← hx, ← hi, ← hh, ← hi', ← hh'] at k1
 rw [← hy, ← hi, ← hh, ← hi', ← hh']
 generalize hr : (⟨_, [], some _⟩ : Ret) = r
 obtain ⟨eb, heb⟩ := nm (row fU c.b)
 rw [← heb] at k1 hr ⊢
 refine fix_bx (fn := ir3317) tb_3317 rfl rfl rfl (by decide) ?_; intro Q hQ; simp only [List.map_cons, List.map_nil, ir3317]
 intro add sub mul arith eq ne lt le gt ge neg conv mn mx not beq len at' ln bd cut app allS isNil mks set o hP F ho
 have g1 : le n 0 = false := by rw [F.le]; simp; omega
 have g2 : le n 256 = true := by rw [F.le]; simp; omega
 have g3 : arith .rem .i64 x n = some (.int .i64 y) := by rw [F.arith, hy2]; show (if n = 0 then none else some (VA.int .i64 (x.tmod n))) = _; rw [if_neg (by omega)]
 rw [← ho] at k1
 cbv
 rw [g1]; cbv
 rw [g2]; cbv
 rw [k1]; cbv
 rw [g3]; cbv
 rw [hQ]; cbv
 exact congrArg some hr
theorem ok3252 (c : Cur) (q : c.Ok) (l : List Int) (h0 : l ≠ []) (h1 : l.length ≤ 256) {f : Fl} (q0 : inFl f = true) : fix Tb md 3252 [sCur (row fU c.b) (.sp 0 0) c.ii c.h, R (row fI l) f] = some ⟨[I (intV l c)], [], some (vCur (row fU c.b) (byteC c).ii (byteC c).h)⟩ := by
 have hl0 : 0 < l.length := List.length_pos_iff.2 h0
 have k1 := ok3317 c q l.length (by omega) (by omega)
 have hin := belowV_in (n := l.length) (c := c) (by omega)
 obtain ⟨y, hy⟩ := nm (belowV l.length c)
 obtain ⟨z, hz⟩ := nm (intV l c)
 obtain ⟨m, hm⟩ : ∃ m : Nat, y = (m : Int) := ⟨y.toNat, by omega⟩
 have hml : m < l.length := by omega
 have hz2 : z = l.getD m 0 := by rw [hz]; unfold intV; rw [← hy, hm]; rfl
 obtain ⟨pre, x, suf, hls, hp⟩ : ∃ pre x suf, l = pre ++ x :: suf ∧ pre.length = m := ⟨l.take m, l[m], l.drop (m + 1), by simp, by simp; omega⟩
 have hzx : z = x := by rw [hz2, hls, ← hp]; simp
 obtain ⟨n, hn⟩ := nm ((l.length : Int))
 obtain ⟨i, hi⟩ := nm (c.ii)
 obtain ⟨h, hh⟩ := nm (c.h)
 obtain ⟨i', hi'⟩ := nm ((byteC c).ii)
 obtain ⟨h', hh'⟩ := nm ((byteC c).h)
 rw [← hn] at hy
 rw [← hn, ← hy, ← hi, ← hh, ← hi', ← hh'] at k1
 rw [← hz, ← hi, ← hh, ← hi', ← hh']
 generalize hr : (⟨_, [], some _⟩ : Ret) = r
 obtain ⟨eb, heb⟩ := nm (row fU c.b)
 obtain ⟨el, hel⟩ := nm (row fI l)
 obtain ⟨ix, hix⟩ := nm (pre.length * 1)
 rw [← heb] at k1 hr ⊢
 rw [← hel]
 refine fix_bx (fn := ir3252) tb_3252 rfl rfl rfl (by decide) ?_; intro Q hQ; simp only [shutS, List.map_cons, List.map_nil, ir3252, shut_in q0]
 intro add sub mul arith eq ne lt le gt ge neg conv mn mx not beq len at' ln bd cut app allS isNil mks set o hP F ho
 have g1 : len el = n := by rw [hn]; exact F.len_at hel
 have p0 : at' 1 el y = some (ix, [.int .i64 x]) := by rw [hix]; exact F.get (by rw [hp]; exact hm) hel hls (fun _ => rfl) (by decide)
 rw [← ho] at k1
 cbv
 rw [g1, k1]; cbv
 rw [p0]; cbv
 rw [← hzx, hQ]; cbv
 exact congrArg some hr
def l16In : Nat → Cur → List Int → List Int × Cur
 | 0, c, b => (b, c)
 | n + 1, c, b => l16In n (byteC c) (b ++ [belowV 256 c])
def l16Go : Nat → Cur → List (List Int) → List (List Int) × Cur
 | 0, c, l => (l, c)
 | n + 1, c, l => l16Go n (l16In (belowV 4 c).toNat (byteC c) []).2 (l ++ [(l16In (belowV 4 c).toNat (byteC c) []).1])
def l16D (c : Cur) : List (List Int) × Cur := l16Go (belowV 5 c).toNat (byteC c) []
theorem byteC_b (c : Cur) : (byteC c).b = c.b := rfl
theorem l16In_b : ∀ (n : Nat) (c : Cur) (b : List Int), (l16In n c b).2.b = c.b
 | 0, _, _ => rfl
 | n + 1, c, b => by unfold l16In; rw [l16In_b n]; rfl
theorem l16In_ok : ∀ (n : Nat) {c : Cur} (b : List Int), c.Ok → (l16In n c b).2.Ok
 | 0, _, _, q => q
 | n + 1, c, b, q => by unfold l16In; exact l16In_ok n _ (byteC_ok q)
theorem l16In_len : ∀ (n : Nat) (c : Cur) (b : List Int), (l16In n c b).1.length = b.length + n
 | 0, _, _ => rfl
 | n + 1, c, b => by unfold l16In; rw [l16In_len n]; simp; omega
theorem l16Go_b : ∀ (n : Nat) (c : Cur) (l : List (List Int)), (l16Go n c l).2.b = c.b
 | 0, _, _ => rfl
 | n + 1, c, l => by unfold l16Go; rw [l16Go_b n, l16In_b]; rfl
theorem l16Go_ok : ∀ (n : Nat) {c : Cur} (l : List (List Int)), c.Ok → (l16Go n c l).2.Ok
 | 0, _, _, q => q
 | n + 1, c, l, q => by unfold l16Go; exact l16Go_ok n _ (l16In_ok _ _ (byteC_ok q))
theorem below4 (c : Cur) : 0 ≤ belowV 4 c ∧ belowV 4 c < 4 := belowV_in (by decide)
theorem l16Go_w : ∀ (n : Nat) (c : Cur) (l : List (List Int)), (∀ y ∈ l, y.length ≤ 3) → (l16Go n c l).1.length = l.length + n ∧ ∀ y ∈ (l16Go n c l).1, y.length ≤ 3
 | 0, _, l, h => ⟨rfl, h⟩
 | n + 1, c, l, h => by
  unfold l16Go
  obtain ⟨h1, h2⟩ := l16Go_w n (l16In (belowV 4 c).toNat (byteC c) []).2 (l ++ [(l16In (belowV 4 c).toNat (byteC c) []).1]) (fun y hy => by
   rcases List.mem_append.1 hy with hy | hy
   ·exact h y hy
   ·simp at hy; subst hy; rw [l16In_len]; have := below4 c; simp; omega)
  exact ⟨by rw [h1]; simp; omega, h2⟩
theorem l16D_b (c : Cur) : (l16D c).2.b = c.b := by unfold l16D; rw [l16Go_b]; rfl
theorem l16D_ok {c : Cur} (q : c.Ok) : (l16D c).2.Ok := by unfold l16D; exact l16Go_ok _ _ (byteC_ok q)
theorem l16D_w (c : Cur) : (l16D c).1.length ≤ 4 ∧ ∀ y ∈ (l16D c).1, y.length ≤ 3 := by
 have h := l16Go_w (belowV 5 c).toNat (byteC c) [] (by simp)
 have := belowV_in (n := 5) (c := c) (by decide)
 unfold l16D
 exact ⟨by rw [h.1]; simp; omega, h.2⟩
theorem ok3353 (c : Cur) (q : c.Ok) : fix Tb md 3353 [sCur (row fU c.b) (.sp 0 0) c.ii c.h] = some ⟨[R (row fR (l16D c).1) (.ow false)], [], some (vCur (row fU c.b) (l16D c).2.ii (l16D c).2.h)⟩ := by
 have k0 := ok3317 c q 5 (by decide) (by decide)
 have r0 := belowV_in (n := 5) (c := c) (by decide)
 obtain ⟨C, hC⟩ := nm (l16D c)
 rw [← hC]
 obtain ⟨n0, hn0⟩ := nm (belowV 5 c)
 obtain ⟨c1, hc1⟩ := nm (byteC c)
 have hT : l16Go n0.toNat c1 [] = C := by rw [hC, hn0, hc1]; rfl
 have q1 : c1.Ok := by rw [hc1]; exact byteC_ok q
 have hb1 : c1.b = c.b := by rw [hc1]; rfl
 rw [← hn0, ← hc1] at k0
 rw [← hn0] at r0
 generalize hr : (⟨_, [], some _⟩ : Ret) = r
 obtain ⟨eb, heb⟩ := nm (row fU c.b)
 rw [← heb] at k0 hr ⊢
 have kb : ∀ (d : Cur), d.Ok → d.b = c.b → ∀ n : Int, 0 < n → n ≤ 256 → fix Tb md 3317 [sCur eb (.sp 0 0) d.ii d.h, I n] = some ⟨[I (belowV n d)], [], some (vCur eb (byteC d).ii (byteC d).h)⟩ := fun d hd e n h0 h1 => by
  have := ok3317 d hd n h0 h1
  rw [e, ← heb] at this; exact this
 obtain ⟨i, hi⟩ := nm (c.ii)
 obtain ⟨h, hh⟩ := nm (c.h)
 obtain ⟨i1, hi1⟩ := nm (c1.ii)
 obtain ⟨h1, hh1⟩ := nm (c1.h)
 rw [← hi, ← hh, ← hi1, ← hh1] at k0
 rw [← hi, ← hh]
 refine fix_bx (fn := ir3353) tb_3353 rfl rfl rfl (by decide) ?_; intro Q hQ; simp only [List.map_nil, ir3353]
 intro add sub mul arith eq ne lt le gt ge neg conv mn mx not beq len at' ln bd cut app allS isNil mks set o hP F ho
 rw [← ho] at k0 kb
 cbv
 rw [k0]; cbv
 have hgt : ∀ (z : Int) (n : Nat), z = (n : Int) → gt z 0 = decide (0 < n) := fun z n e => by rw [F.gt, e]; simp
 have hdec : ∀ (z : Int) (n : Nat), z = ((n + 1 : Nat) : Int) → n ≤ 1000 → sub .i64 z 1 = (n : Int) := fun z n e hn => by rw [F.sub, e, wrap64 (by omega) (by omega)]; omega
 refine loop_ind2 hP (σ := Nat × Cur × List (List Int) × Int × List (List V) × Int × Int × Option (List (List V) × Int)) (fun s => match s.2.2.2.2.2.2.2 with
   | none => [(0, ⟨.ptr 63 0, []⟩), (2, R [] .nl), (3, R s.2.2.2.2.1 (.ow false)), (4, I s.2.2.2.1), (63, ⟨.box (), [⟨.row () eb, .sp 0 0⟩, ⟨.int .i64 s.2.2.2.2.2.1, .sc⟩, ⟨.int .i64 s.2.2.2.2.2.2.1, .sc⟩]⟩)]
   | some j => [(0, ⟨.ptr 63 0, []⟩), (2, R [] .nl), (3, R s.2.2.2.2.1 (.ow false)), (4, I s.2.2.2.1), (5, R j.1 .fr), (6, I j.2), (63, ⟨.box (), [⟨.row () eb, .sp 0 0⟩, ⟨.int .i64 s.2.2.2.2.2.1, .sc⟩, ⟨.int .i64 s.2.2.2.2.2.2.1, .sc⟩]⟩)]) (fun s => s.2.1.Ok ∧ s.2.1.b = c.b ∧ s.2.2.2.1 = (s.1 : Int) ∧ s.2.2.2.2.1 = row fR s.2.2.1 ∧ s.2.2.2.2.2.1 = s.2.1.ii ∧ s.2.2.2.2.2.2.1 = s.2.1.h ∧ l16Go s.1 s.2.1 s.2.2.1 = C ∧ s.1 + s.2.2.1.length ≤ 256) (fun s => s.1) (n0.toNat, c1, [], n0, [], i1, h1, none) rfl ⟨q1, hb1, by simp only; omega, rfl, hi1, hh1, hT, by simp; omega⟩ ?_
 intro c9 Q1 hc9 hQ1
 rintro ⟨n, d, l, nn, eo, i, h, j⟩ ⟨qd, hbd, hnn, heo, hi', hh', hT', hl⟩ ih
 simp only at qd hbd hnn heo hi' hh' hT' hl ih
 rcases j with _ | ⟨j1, j2⟩
 all_goals
  cbv
  cases n with
  | zero =>
   have hTT : (l, d) = C := hT'
   rw [hgt nn 0 hnn]; cbv
   rw [hQ1]; cbv
   rw [hQ]; cbv
   rw [← hTT] at hr
   simp only at hr
   rw [← heo, ← hi', ← hh'] at hr
   exact congrArg some hr
  | succ n =>
   rw [hgt nn (n + 1) hnn]; cbv
   have k1 := kb d qd hbd 4 (by decide) (by decide)
   have r1 := below4 d
   obtain ⟨m0, hm0⟩ := nm (belowV 4 d)
   obtain ⟨d1, hd1⟩ := nm (byteC d)
   have qd1 : d1.Ok := by rw [hd1]; exact byteC_ok qd
   have hbd1 : d1.b = c.b := by rw [hd1]; exact hbd
   rw [← hm0, ← hd1, ← hi', ← hh'] at k1
   rw [← hm0] at r1
   obtain ⟨i2, hi2⟩ := nm (d1.ii)
   obtain ⟨h2, hh2⟩ := nm (d1.h)
   rw [← hi2, ← hh2] at k1
   obtain ⟨X, hX⟩ := nm (l16In m0.toNat d1 [])
   unfold l16Go at hT'
   rw [← hm0, ← hd1, ← hX] at hT'
   have qX : X.2.Ok := by rw [hX]; exact l16In_ok _ _ qd1
   have bX : X.2.b = c.b := by rw [hX, l16In_b]; exact hbd1
   rw [k1]; cbv
   refine loop_ind2 hP (σ := Nat × Cur × List Int × Int × List (List V) × Int × Int) (fun s => [(0, ⟨.ptr 63 0, []⟩), (2, R [] .nl), (3, R eo (.ow false)), (4, I nn), (5, R s.2.2.2.2.1 (.ow false)), (6, I s.2.2.2.1), (63, ⟨.box (), [⟨.row () eb, .sp 0 0⟩, ⟨.int .i64 s.2.2.2.2.2.1, .sc⟩, ⟨.int .i64 s.2.2.2.2.2.2, .sc⟩]⟩)]) (fun s => s.2.1.Ok ∧ s.2.1.b = c.b ∧ s.2.2.2.1 = (s.1 : Int) ∧ s.2.2.2.2.1 = row fI s.2.2.1 ∧ s.2.2.2.2.2.1 = s.2.1.ii ∧ s.2.2.2.2.2.2 = s.2.1.h ∧ l16In s.1 s.2.1 s.2.2.1 = X ∧ s.1 + s.2.2.1.length ≤ 256) (fun s => s.1) (m0.toNat, d1, [], m0, [], i2, h2) rfl ⟨qd1, hbd1, by simp only; omega, rfl, hi2, hh2, hX.symm, by simp; omega⟩ ?_
   intro c8 Q2 hc8 hQ2
   rintro ⟨m, x, b, mm, e5, i3, h3⟩ ⟨qx, hbx, hmm, he5, hi3, hh3, hX', hml⟩ ih2
   simp only at qx hbx hmm he5 hi3 hh3 hX' hml ih2
   cbv
   cases m with
   | zero =>
    have hXX : (b, x) = X := hX'
    rw [hgt mm 0 hmm]; cbv
    rw [hQ2]; cbv
    rw [show allS [[.row () e5]] = false by rw [F.allS]; rfl]; cbv
    obtain ⟨eo', heo'⟩ := nm (row fR (l ++ [b]))
    rw [show app 1 eo [[.row () e5]] = some eo' by rw [heo', he5]; exact F.push (f := fR) heo (fun _ => rfl) rfl (by omega)]; cbv
    rw [hdec nn n hnn (by omega)]
    rw [← hXX] at hT'
    exact ih (n, x, l ++ [b], (n : Int), eo', i3, h3, some (e5, mm)) ⟨qx, hbx, rfl, heo', hi3, hh3, hT', by simp; omega⟩ (by simp)
   | succ m =>
    rw [hgt mm (m + 1) hmm]; cbv
    have k2 := kb x qx hbx 256 (by decide) (by decide)
    obtain ⟨y, hy⟩ := nm (belowV 256 x)
    obtain ⟨x1, hx1⟩ := nm (byteC x)
    rw [← hy, ← hx1, ← hi3, ← hh3] at k2
    obtain ⟨i4, hi4⟩ := nm (x1.ii)
    obtain ⟨h4, hh4⟩ := nm (x1.h)
    rw [← hi4, ← hh4] at k2
    unfold l16In at hX'
    rw [← hy, ← hx1] at hX'
    rw [k2]; cbv
    rw [show allS [[.int .i64 y]] = true by rw [F.allS]; rfl]; cbv
    obtain ⟨e5', he5'⟩ := nm (row fI (b ++ [y]))
    rw [show app 1 e5 [[.int .i64 y]] = some e5' by rw [he5']; exact F.push he5 (fun _ => rfl) rfl (by omega)]; cbv
    rw [hdec mm m hmm (by omega)]
    exact ih2 (m, x1, b ++ [y], (m : Int), e5', i4, h4) ⟨by rw [hx1]; exact byteC_ok qx, by rw [hx1]; exact hbx, rfl, he5', hi4, hh4, hX', by simp; omega⟩ (by simp)
def pad13 (l : List (List Int)) : List (List Int) := l ++ List.replicate (13 - l.length) [1]
def l16A (c : Cur) : List (List Int) × Cur :=
 if belowV 9 (l16D c).2 = 0 then ((l16D c).1 ++ [[intV [-1, 255, 256] (byteC (l16D c).2)]], byteC (byteC (l16D c).2)) else if belowV 9 (l16D c).2 = 1 then (pad13 (l16D c).1, byteC (l16D c).2) else ((l16D c).1, byteC (l16D c).2)
theorem l16A_b (c : Cur) : (l16A c).2.b = c.b := by
 unfold l16A; split
 ·exact l16D_b c
 ·split <;> exact l16D_b c
theorem l16A_ok {c : Cur} (q : c.Ok) : (l16A c).2.Ok := by
 unfold l16A; split
 ·exact byteC_ok (byteC_ok (l16D_ok q))
 ·split <;> exact byteC_ok (l16D_ok q)
theorem l16A_w (c : Cur) : (l16A c).1.length ≤ 13 ∧ ∀ y ∈ (l16A c).1, y.length ≤ 3 := by
 obtain ⟨h1, h2⟩ := l16D_w c
 unfold l16A; split
 ·refine ⟨by simp; omega, fun y hy => ?_⟩
  rcases List.mem_append.1 hy with hy | hy
  ·exact h2 y hy
  ·simp at hy; subst hy; simp
 ·split
  ·refine ⟨by simp [pad13]; omega, fun y hy => ?_⟩
   rcases List.mem_append.1 hy with hy | hy
   ·exact h2 y hy
   ·rw [List.eq_of_mem_replicate hy]; simp
  ·exact ⟨by show (l16D c).1.length ≤ 13; omega, h2⟩
theorem ok3300 (c : Cur) (q : c.Ok) : fix Tb md 3300 [sCur (row fU c.b) (.sp 0 0) c.ii c.h] = some ⟨[R (row fR (l16A c).1) (.ow false)], [], some (vCur (row fU c.b) (l16A c).2.ii (l16A c).2.h)⟩ := by
 have k1 := ok3353 c q
 have hw := l16D_w c
 have qd := l16D_ok q
 have bd' := l16D_b c
 obtain ⟨C, hC⟩ := nm (l16A c)
 rw [← hC]
 unfold l16A at hC
 obtain ⟨L, hL⟩ := nm (l16D c).1
 obtain ⟨d, hd⟩ := nm (l16D c).2
 rw [← hL, ← hd] at hC k1
 rw [← hL] at hw
 rw [← hd] at qd bd'
 have k2 := ok3317 d qd 9 (by decide) (by decide)
 obtain ⟨n, hn⟩ := nm (belowV 9 d)
 obtain ⟨d1, hd1⟩ := nm (byteC d)
 have q1 : d1.Ok := by rw [hd1]; exact byteC_ok qd
 have b1 : d1.b = c.b := by rw [hd1]; exact bd'
 rw [← hn, ← hd1] at k2 hC
 have k3 := ok3252 d1 q1 [-1, 255, 256] (by simp) (by simp) (f := .sp 1 0) rfl
 obtain ⟨v, hv⟩ := nm (intV [-1, 255, 256] d1)
 obtain ⟨d2, hd2⟩ := nm (byteC d1)
 rw [← hv, ← hd2] at k3 hC
 rw [bd'] at k2
 rw [b1] at k3
 clear hL hd hn hd1 hv hd2
 generalize hr : (⟨_, [], some _⟩ : Ret) = r
 obtain ⟨eb, heb⟩ := nm (row fU c.b)
 rw [← heb] at k1 k2 k3 hr ⊢
 rw [show row fI [-1, 255, 256] = [[.int .i64 (-1)], [.int .i64 255], [.int .i64 256]] from rfl] at k3
 obtain ⟨i, hi⟩ := nm (c.ii)
 obtain ⟨h, hh⟩ := nm (c.h)
 obtain ⟨i0, hi0⟩ := nm (d.ii)
 obtain ⟨h0, hh0⟩ := nm (d.h)
 obtain ⟨i1, hi1⟩ := nm (d1.ii)
 obtain ⟨h1, hh1⟩ := nm (d1.h)
 obtain ⟨i2, hi2⟩ := nm (d2.ii)
 obtain ⟨h2, hh2⟩ := nm (d2.h)
 obtain ⟨eL, heL⟩ := nm (row fR L)
 rw [← hi, ← hh, ← hi0, ← hh0, ← heL] at k1
 rw [← hi0, ← hh0, ← hi1, ← hh1] at k2
 rw [← hi1, ← hh1, ← hi2, ← hh2] at k3
 rw [← hi, ← hh]
 refine fix_bx (fn := ir3300) tb_3300 rfl rfl rfl (by decide) ?_; intro Q hQ; simp only [List.map_nil, ir3300]
 intro add sub mul arith eq ne lt le gt ge neg conv mn mx not beq len at' ln bd cut app allS isNil mks set o hP F ho
 have g1 : eq n 0 = decide (n = 0) := F.eq ..
 have g2 : eq n 1 = decide (n = 1) := F.eq ..
 rw [← ho] at k1 k2 k3
 cbv
 rw [k1]; cbv
 rw [k2]; cbv
 refine both (fun e1 => ?_) (fun e1 => ?_) <;> rw [e1] <;> cbv
 ·rw [g1, decide_eq_true_eq] at e1
  rw [if_pos e1] at hC
  obtain ⟨e2, he2⟩ := nm (row fR (L ++ [[v]]))
  have p1 : app 1 eL [[.row () [[.int .i64 v]]]] = some e2 := by rw [he2]; exact F.push (f := fR) heL (fun _ => rfl) rfl (by omega)
  rw [hC] at hr
  simp only at hr
  rw [← he2, ← hi2, ← hh2] at hr
  rw [k3]; cbv
  rw [show allS [[.row () [[.int .i64 v]]]] = false by rw [F.allS]; rfl]; cbv
  rw [p1]; cbv
  rw [hQ]; cbv
  exact congrArg some hr
 rw [g1, decide_eq_false_iff_not] at e1
 rw [if_neg e1] at hC
 refine both (fun e2 => ?_) (fun e2 => ?_) <;> rw [e2] <;> cbv
 ·rw [g2, decide_eq_true_eq] at e2
  rw [if_pos e2] at hC
  rw [hC] at hr
  simp only at hr
  rw [← hi1, ← hh1] at hr
  refine loop_ind2 hP (σ := List (List Int) × List (List V)) (fun s => [(0, ⟨.ptr 55 0, []⟩), (2, R [] .nl), (3, R s.2 (.ow false)), (7, I n), (55, ⟨.box (), [⟨.row () eb, .sp 0 0⟩, ⟨.int .i64 i1, .sc⟩, ⟨.int .i64 h1, .sc⟩]⟩)]) (fun s => s.2 = row fR s.1 ∧ s.1.length ≤ 13 ∧ pad13 s.1 = pad13 L) (fun s => 13 - s.1.length) (L, eL) rfl ⟨heL, Nat.le_trans hw.1 (by decide), rfl⟩ ?_
  intro c9 Q1 hc9 hQ1
  rintro ⟨l, el⟩ ⟨hel, hl, hp⟩ ih
  simp only at hel hl hp ih
  have ll := F.len_at hel
  have g3 : lt (len el) 13 = decide (l.length < 13) := F.lt_n ll (k := 13) (m := 13) rfl
  cbv
  refine both (fun e3 => ?_) (fun e3 => ?_) <;> rw [e3] <;> cbv
  ·rw [g3, decide_eq_true_eq] at e3
   obtain ⟨e4, he4⟩ := nm (row fR (l ++ [[1]]))
   rw [show allS [[.row () [[.int .i64 1]]]] = false by rw [F.allS]; rfl]; cbv
   rw [show app 1 el [[.row () [[.int .i64 1]]]] = some e4 by rw [he4]; exact F.push (f := fR) hel (fun _ => rfl) rfl (by omega)]; cbv
   refine ih (l ++ [[1]], e4) ⟨he4, by simp; omega, ?_⟩ (by simp; omega)
   rw [← hp]
   unfold pad13
   rw [show 13 - l.length = (13 - (l ++ [[1]]).length) + 1 by simp; omega, List.replicate_succ]
   simp
  ·rw [g3, decide_eq_false_iff_not] at e3
   have hpl : pad13 L = l := by rw [← hp]; unfold pad13; rw [show 13 - l.length = 0 by omega]; simp
   rw [hpl, ← hel] at hr
   rw [hQ1]; cbv
   rw [hQ]; cbv
   exact congrArg some hr
 ·rw [g2, decide_eq_false_iff_not] at e2
  rw [if_neg e2] at hC
  rw [hC] at hr
  simp only at hr
  rw [← heL, ← hi1, ← hh1] at hr
  rw [hQ]; cbv
  exact congrArg some hr
def dfC (code : List Int) : Cur := (l16A (newC code)).2
def dfL (code : List Int) : List (List Int) := (l16A (newC code)).1
def dfK (code : List Int) : Int := intV [5, 77, 0, -1] (dfC code)
def dfS (code : List Int) : Int := intV [0, 1, 1, 2, -1] (byteC (dfC code))
theorem ok159 (code : List Int) (hl : code.length ≤ 1048576) : fix Tb md 159 [R (row fU code) (.sp 0 0)] = some ⟨[I (dfK code), R (row fR (dfL code)) (.ow false), I (dfS code)], [], none⟩ := by
 have h0 : inFl (.sp 0 0) = true := rfl
 have k1 := ok246 code hl
 have q0 := newC_ok hl
 obtain ⟨c, hc⟩ := nm (newC code)
 rw [← hc] at k1 q0
 have b0 : c.b = code := by rw [hc]; rfl
 have i0' : c.ii = 0 := by rw [hc]; rfl
 have k2 := ok3300 c q0
 have q1 := l16A_ok q0
 have b1 := l16A_b c
 rw [b0] at k2 b1
 rw [i0'] at k2
 obtain ⟨L, hL⟩ := nm (l16A c).1
 obtain ⟨d, hd⟩ := nm (l16A c).2
 rw [← hL, ← hd] at k2
 rw [← hd] at q1 b1
 have k3 := ok3252 d q1 [5, 77, 0, -1] (by simp) (by simp) (f := .sp 1 0) rfl
 have q2 := byteC_ok q1
 have k4 := ok3252 (byteC d) q2 [0, 1, 1, 2, -1] (by simp) (by simp) (f := .sp 1 0) rfl
 rw [show (byteC d).b = d.b from rfl] at k4
 rw [b1] at k3 k4
 rw [show dfK code = intV [5, 77, 0, -1] d by rw [hd, hc]; rfl, show dfL code = L by rw [hL, hc]; rfl, show dfS code = intV [0, 1, 1, 2, -1] (byteC d) by rw [hd, hc]; rfl]
 obtain ⟨v, hv⟩ := nm (intV [5, 77, 0, -1] d)
 obtain ⟨w, hw⟩ := nm (intV [0, 1, 1, 2, -1] (byteC d))
 rw [← hv] at k3 ⊢
 rw [← hw] at k4 ⊢
 rw [show row fI [5, 77, 0, -1] = [[.int .i64 5], [.int .i64 77], [.int .i64 0], [.int .i64 (-1)]] from rfl] at k3
 rw [show row fI [0, 1, 1, 2, -1] = [[.int .i64 0], [.int .i64 1], [.int .i64 1], [.int .i64 2], [.int .i64 (-1)]] from rfl] at k4
 generalize hr : (⟨_, [], none⟩ : Ret) = r
 obtain ⟨eb, heb⟩ := nm (row fU code)
 obtain ⟨eL, heL⟩ := nm (row fR L)
 obtain ⟨h, hh⟩ := nm (c.h)
 obtain ⟨i1, hi1⟩ := nm (d.ii)
 obtain ⟨h1, hh1⟩ := nm (d.h)
 obtain ⟨i2, hi2⟩ := nm ((byteC d).ii)
 obtain ⟨h2, hh2⟩ := nm ((byteC d).h)
 obtain ⟨i3, hi3⟩ := nm ((byteC (byteC d)).ii)
 obtain ⟨h3, hh3⟩ := nm ((byteC (byteC d)).h)
 rw [← heb] at k1 k2 k3 k4 ⊢
 rw [← heL] at k2 hr
 rw [← hh] at k1 k2
 rw [← hi1, ← hh1] at k2 k3
 rw [← hi2, ← hh2] at k3 k4
 rw [← hi3, ← hh3] at k4
 refine fix_fn2 (fn := ir159) tb_159 rfl rfl (by decide) rfl ?_; intro Q hQ; simp only [shutArgs, shutS, List.map_cons, List.map_nil, ir159, shut_in h0, List.head?_nil, reduceCtorEq, if_false, sExt, sHello, sAnswer, sEdit, sDeal, sBox, sDialed, sKnown]
 intro add sub mul arith eq ne lt le gt ge neg conv mn mx not beq len at' ln bd cut app allS isNil mks set o hP F ho
 rw [← ho] at k1 k2 k3 k4
 cbv
 rw [k1]; cbv
 rw [k2]; cbv
 rw [k3]; cbv
 rw [k4]; cbv
 rw [hQ]; cbv
 exact congrArg some hr
theorem ok228 (a b : List Int) (hl : a.length ≤ 1099511627776) {f0 f1 : Fl} (h0 : inFl f0 = true) (h1 : inFl f1 = true) : fix Tb md 228 [R (row fI a) f0, R (row fI b) f1] = some ⟨[B (decide (a = b))], [], none⟩ := by
 refine fix_fn (fn := ir228) tb_228 rfl rfl (by decide) rfl ?_; simp only [shutArgs, shutS, List.map_cons, List.map_nil, ir228, shut_in h0, shut_in h1, List.head?_nil, reduceCtorEq, if_false, sExt, sHello, sAnswer, sEdit, sDeal, sBox, sDialed, sKnown]
 generalize hr : (⟨_, [], none⟩ : Ret) = r
 obtain ⟨ea, hea⟩ := nm (row fI a)
 obtain ⟨eb, heb⟩ := nm (row fI b)
 rw [← hea, ← heb]
 intro add sub mul arith eq ne lt le gt ge neg conv mn mx not beq len at' ln bd cut app allS isNil mks set o hP F ho
 have la := F.len_at hea
 have lb := F.len_at heb
 cbv
 by_cases hab : a.length = b.length
 ·rw [F.ne_f (by unfold At at la lb; omega)]; cbv
  refine loop_ind hP (σ := List Int × List Int × List Int × Int) (fun s => [(0, R ea .sh), (1, R eb .sh), (4, B false), (5, I s.2.2.2)]) (fun s => At s.2.2.2 s.1.length ∧ a = s.1 ++ s.2.1 ∧ b = s.1 ++ s.2.2.1) (fun s => s.2.1.length) ([], a, b, 0) rfl ⟨rfl, rfl, rfl⟩ ?_
  rintro ⟨pre, sa, sb, i⟩ ⟨hi, ha, hb⟩ ih
  simp only at hi ha hb ih
  cbv
  have hlen : sa.length = sb.length := by simp [ha, hb] at hab; exact hab
  match sa, sb, hlen, ha, hb with
  | [], [], _, ha, hb =>
   rw [F.lt_f hi la (by simp [ha])]; cbv
   rw [← hr]; simp [ha, hb]
  | x :: sa, y :: sb, _, ha, hb =>
   rw [F.lt_t hi la (by simp [ha])]; cbv
   obtain ⟨ix, hix⟩ := nm (pre.length * 1)
   rw [show at' 1 ea i = some (ix, [.int .i64 x]) by rw [hix]; exact F.get hi hea ha (fun _ => rfl) (by decide)]; cbv
   rw [show at' 1 eb i = some (ix, [.int .i64 y]) by rw [hix]; exact F.get hi heb hb (fun _ => rfl) (by decide)]; cbv
   by_cases hxy : x = y
   ·rw [F.ne_f hxy]; cbv
    refine ih (pre ++ [x], sa, sb, add .i64 i 1) ⟨at_len (F.inc hi (by simp [ha] at hl; omega)) (by simp), by simp [ha], by simp [hb, hxy]⟩ (by simp)
   ·rw [F.ne_t hxy]; cbv
    rw [← hr]; simp [ha, hb, hxy]
 ·rw [F.ne_t (by unfold At at la lb; omega)]; cbv
  rw [← hr]
  simp
  intro e; exact hab (by rw [e])
theorem ok89 (a b : List (List Int)) (hl : a.length ≤ 1099511627776) (w : ∀ y ∈ a, y.length ≤ 1099511627776) {f0 f1 : Fl} (h0 : inFl f0 = true) (h1 : inFl f1 = true) : fix Tb md 89 [R (row fR a) f0, R (row fR b) f1] = some ⟨[B (decide (a = b))], [], none⟩ := by
 refine fix_fn (fn := ir89) tb_89 rfl rfl (by decide) rfl ?_; simp only [shutArgs, shutS, List.map_cons, List.map_nil, ir89, shut_in h0, shut_in h1, List.head?_nil, reduceCtorEq, if_false, sExt, sHello, sAnswer, sEdit, sDeal, sBox, sDialed, sKnown]
 generalize hr : (⟨_, [], none⟩ : Ret) = r
 obtain ⟨ea, hea⟩ := nm (row fR a)
 obtain ⟨eb, heb⟩ := nm (row fR b)
 rw [← hea, ← heb]
 intro add sub mul arith eq ne lt le gt ge neg conv mn mx not beq len at' ln bd cut app allS isNil mks set o hP F ho
 have la := F.len_at hea
 have lb := F.len_at heb
 cbv
 by_cases hab : a.length = b.length
 ·rw [F.ne_f (by unfold At at la lb; omega)]; cbv
  refine loop_ind hP (σ := List (List Int) × List (List Int) × List (List Int) × Int) (fun s => [(0, R ea .sh), (1, R eb .sh), (4, B false), (5, I s.2.2.2)]) (fun s => At s.2.2.2 s.1.length ∧ a = s.1 ++ s.2.1 ∧ b = s.1 ++ s.2.2.1) (fun s => s.2.1.length) ([], a, b, 0) rfl ⟨rfl, rfl, rfl⟩ ?_
  rintro ⟨pre, sa, sb, i⟩ ⟨hi, ha, hb⟩ ih
  simp only at hi ha hb ih
  cbv
  have hlen : sa.length = sb.length := by simp [ha, hb] at hab; exact hab
  match sa, sb, hlen, ha, hb with
  | [], [], _, ha, hb =>
   rw [F.lt_f hi la (by simp [ha])]; cbv
   rw [← hr]; simp [ha, hb]
  | x :: sa, y :: sb, _, ha, hb =>
   rw [F.lt_t hi la (by simp [ha])]; cbv
   obtain ⟨ix, hix⟩ := nm (pre.length * 1)
   obtain ⟨ex, hex⟩ := nm (row fI x)
   obtain ⟨ey, hey⟩ := nm (row fI y)
   rw [show at' 1 ea i = some (ix, [.row () ex]) by rw [hix, hex]; exact F.get hi hea ha (fun _ => rfl) (by decide)]; cbv
   rw [show at' 1 eb i = some (ix, [.row () ey]) by rw [hix, hey]; exact F.get hi heb hb (fun _ => rfl) (by decide)]; cbv
   obtain ⟨v, hv⟩ := nm (decide (x = y))
   rw [show o 228 [R ex (.sp 0 0), R ey (.sp 1 0)] = some ⟨[B v], [], none⟩ by rw [ho, hv, hex, hey]; exact ok228 _ _ (w x (by rw [ha]; simp)) rfl rfl]; cbv
   refine both (fun c => ?_) (fun c => ?_) <;> rw [c] <;> cbv
   ·rw [F.not] at c
    rw [← hr, ha, hb]; simp at c ⊢; simp_all
   ·rw [F.not] at c
    have hxy : x = y := by simp at c; simp_all
    refine ih (pre ++ [x], sa, sb, add .i64 i 1) ⟨at_len (F.inc hi (by simp [ha] at hl; omega)) (by simp), by simp [ha], by simp [hb, hxy]⟩ (by simp)
 ·rw [F.ne_t (by unfold At at la lb; omega)]; cbv
  rw [← hr]
  simp
  intro e; exact hab (by rw [e])
theorem ok229 (a b : List Int) (hl : a.length ≤ 1099511627776) {f0 f1 : Fl} (h0 : inFl f0 = true) (h1 : inFl f1 = true) : fix Tb md 229 [R (row fI a) f0, R (row fI b) f1] = some ⟨[B (decide (a = b))], [], none⟩ := by
 refine fix_fn (fn := ir229) tb_229 rfl rfl (by decide) rfl ?_; simp only [shutArgs, shutS, List.map_cons, List.map_nil, ir229, shut_in h0, shut_in h1, List.head?_nil, reduceCtorEq, if_false, sExt, sHello, sAnswer, sEdit, sDeal, sBox, sDialed, sKnown]
 generalize hr : (⟨_, [], none⟩ : Ret) = r
 obtain ⟨ea, hea⟩ := nm (row fI a)
 obtain ⟨eb, heb⟩ := nm (row fI b)
 rw [← hea, ← heb]
 intro add sub mul arith eq ne lt le gt ge neg conv mn mx not beq len at' ln bd cut app allS isNil mks set o hP F ho
 have la := F.len_at hea
 have lb := F.len_at heb
 cbv
 by_cases hab : a.length = b.length
 ·rw [F.ne_f (by unfold At at la lb; omega)]; cbv
  refine loop_ind hP (σ := List Int × List Int × List Int × Int × Option Int) (fun s => match s.2.2.2.2 with | none => [(0, R ea .sh), (1, R eb .sh), (4, B false), (12, I (len ea)), (13, I s.2.2.2.1)] | some j => [(0, R ea .sh), (1, R eb .sh), (4, B false), (5, I j), (12, I (len ea)), (13, I s.2.2.2.1)]) (fun s => At s.2.2.2.1 s.1.length ∧ a = s.1 ++ s.2.1 ∧ b = s.1 ++ s.2.2.1) (fun s => s.2.1.length) ([], a, b, 0, none) rfl ⟨rfl, rfl, rfl⟩ ?_
  rintro ⟨pre, sa, sb, i, j⟩ ⟨hi, ha, hb⟩ ih
  simp only at hi ha hb ih
  have hlen : sa.length = sb.length := by simp [ha, hb] at hab; exact hab
  cases j <;> cbv <;> (
   match sa, sb, hlen, ha, hb with
   | [], [], _, ha, hb =>
    rw [F.lt_f hi la (by simp [ha])]; cbv
    rw [← hr]; simp [ha, hb]
   | x :: sa, y :: sb, _, ha, hb =>
    rw [F.lt_t hi la (by simp [ha])]; cbv
    obtain ⟨ix, hix⟩ := nm (pre.length * 1)
    rw [show at' 1 ea i = some (ix, [.int .i64 x]) by rw [hix]; exact F.get hi hea ha (fun _ => rfl) (by decide)]; cbv
    rw [show at' 1 eb i = some (ix, [.int .i64 y]) by rw [hix]; exact F.get hi heb hb (fun _ => rfl) (by decide)]; cbv
    by_cases hxy : x = y
    ·rw [F.ne_f hxy]; cbv
     refine ih (pre ++ [x], sa, sb, add .i64 i 1, some i) ⟨at_len (F.inc hi (by simp [ha] at hl; omega)) (by simp), by simp [ha], by simp [hb, hxy]⟩ (by simp)
    ·rw [F.ne_t hxy]; cbv
     rw [← hr]; simp [ha, hb, hxy])
 ·rw [F.ne_t (by unfold At at la lb; omega)]; cbv
  rw [← hr]
  simp
  intro e; exact hab (by rw [e])
theorem ok177 (a b : List Int) (hl : a.length ≤ 1099511627776) {f0 f1 : Fl} (h0 : inFl f0 = true) (h1 : inFl f1 = true) : fix Tb md 177 [R (row fI a) f0, R (row fI b) f1] = some ⟨[B (decide (a = b))], [], none⟩ := by
 refine fix_fn (fn := ir177) tb_177 rfl rfl (by decide) rfl ?_; simp only [shutArgs, shutS, List.map_cons, List.map_nil, ir177, shut_in h0, shut_in h1, List.head?_nil, reduceCtorEq, if_false, sExt, sHello, sAnswer, sEdit, sDeal, sBox, sDialed, sKnown]
 generalize hr : (⟨_, [], none⟩ : Ret) = r
 obtain ⟨ea, hea⟩ := nm (row fI a)
 obtain ⟨eb, heb⟩ := nm (row fI b)
 rw [← hea, ← heb]
 obtain ⟨v, hv⟩ := nm (decide (a = b))
 intro add sub mul arith eq ne lt le gt ge neg conv mn mx not beq len at' ln bd cut app allS isNil mks set o hP F ho
 have c1 : o 229 [R ea (.sp 0 0), R eb (.sp 1 0)] = some ⟨[B v], [], none⟩ := by rw [ho, hv, hea, heb]; exact ok229 _ _ hl rfl rfl
 cbv
 rw [c1]; cbv
 rw [← hr, hv]
theorem ok237 (a b : List (List Int)) (hl : a.length ≤ 1099511627776) (w : ∀ y ∈ a, y.length ≤ 1099511627776) {f0 f1 : Fl} (h0 : inFl f0 = true) (h1 : inFl f1 = true) : fix Tb md 237 [R (row fR a) f0, R (row fR b) f1, ⟨.val, [⟨.fn 177 [], .sh⟩]⟩] = some ⟨[B (decide (a = b))], [], none⟩ := by
 refine fix_fn (fn := ir237) tb_237 rfl rfl (by decide) rfl ?_; simp only [shutArgs, shutS, List.map_cons, List.map_nil, ir237, shut_in h0, shut_in h1, List.head?_nil, reduceCtorEq, if_false, sExt, sHello, sAnswer, sEdit, sDeal, sBox, sDialed, sKnown]
 generalize hr : (⟨_, [], none⟩ : Ret) = r
 obtain ⟨ea, hea⟩ := nm (row fR a)
 obtain ⟨eb, heb⟩ := nm (row fR b)
 rw [← hea, ← heb]
 intro add sub mul arith eq ne lt le gt ge neg conv mn mx not beq len at' ln bd cut app allS isNil mks set o hP F ho
 have la := F.len_at hea
 have lb := F.len_at heb
 cbv
 by_cases hab : a.length = b.length
 ·rw [F.ne_f (by unfold At at la lb; omega)]; cbv
  refine loop_ind hP (σ := List (List Int) × List (List Int) × List (List Int) × Int × Option (Int × List (List V) × List (List V)))
   (fun s => match s.2.2.2.2 with
    | none => [(0, R ea .sh), (1, R eb .sh), (2, ⟨.val, [⟨.fn 177 [], .sh⟩]⟩), (6, B false), (15, R ea .sh), (16, I (len ea)), (17, I s.2.2.2.1)]
    | some j => [(0, R ea .sh), (1, R eb .sh), (2, ⟨.val, [⟨.fn 177 [], .sh⟩]⟩), (6, B false), (7, I j.1), (8, R j.2.1 .sh), (9, R j.2.2 .sh), (15, R ea .sh), (16, I (len ea)), (17, I s.2.2.2.1)])
   (fun s => At s.2.2.2.1 s.1.length ∧ a = s.1 ++ s.2.1 ∧ b = s.1 ++ s.2.2.1) (fun s => s.2.1.length) ([], a, b, 0, none) rfl ⟨rfl, rfl, rfl⟩ ?_
  rintro ⟨pre, sa, sb, i, j⟩ ⟨hi, ha, hb⟩ ih
  simp only at hi ha hb ih
  have hlen : sa.length = sb.length := by simp [ha, hb] at hab; exact hab
  cases j <;> cbv <;> (
  match sa, sb, hlen, ha, hb with
  | [], [], _, ha, hb =>
   rw [F.lt_f hi la (by simp [ha])]; cbv
   rw [← hr]; simp [ha, hb]
  | x :: sa, y :: sb, _, ha, hb =>
   rw [F.lt_t hi la (by simp [ha])]; cbv
   obtain ⟨ix, hix⟩ := nm (pre.length * 1)
   obtain ⟨ex, hex⟩ := nm (row fI x)
   obtain ⟨ey, hey⟩ := nm (row fI y)
   rw [show at' 1 ea i = some (ix, [.row () ex]) by rw [hix, hex]; exact F.get hi hea ha (fun _ => rfl) (by decide)]; cbv
   rw [show at' 1 eb i = some (ix, [.row () ey]) by rw [hix, hey]; exact F.get hi heb hb (fun _ => rfl) (by decide)]; cbv
   obtain ⟨v, hv⟩ := nm (decide (x = y))
   rw [show o 177 [R ex (.sp 0 0), R ey (.sp 1 0)] = some ⟨[B v], [], none⟩ by rw [ho, hv, hex, hey]; exact ok177 _ _ (w x (by rw [ha]; simp)) rfl rfl]; cbv
   refine both (fun c => ?_) (fun c => ?_) <;> rw [c] <;> cbv
   ·rw [F.not] at c
    rw [← hr, ha, hb]; simp at c ⊢; simp_all
   ·rw [F.not] at c
    have hxy : x = y := by simp at c; simp_all
    refine ih (pre ++ [x], sa, sb, add .i64 i 1, some (i, ex, ey)) ⟨at_len (F.inc hi (by simp [ha] at hl; omega)) (by simp), by simp [ha], by simp [hb, hxy]⟩ (by simp))
 ·rw [F.ne_t (by unfold At at la lb; omega)]; cbv
  rw [← hr]
  simp
  intro e; exact hab (by rw [e])
theorem ok90 (a b : List (List Int)) (hl : a.length ≤ 1099511627776) (w : ∀ y ∈ a, y.length ≤ 1099511627776) {f0 f1 : Fl} (h0 : inFl f0 = true) (h1 : inFl f1 = true) : fix Tb md 90 [R (row fR a) f0, R (row fR b) f1] = some ⟨[B (decide (a = b))], [], none⟩ := by
 refine fix_fn (fn := ir90) tb_90 rfl rfl (by decide) rfl ?_; simp only [shutArgs, shutS, List.map_cons, List.map_nil, ir90, shut_in h0, shut_in h1, List.head?_nil, reduceCtorEq, if_false, sExt, sHello, sAnswer, sEdit, sDeal, sBox, sDialed, sKnown]
 generalize hr : (⟨_, [], none⟩ : Ret) = r
 obtain ⟨ea, hea⟩ := nm (row fR a)
 obtain ⟨eb, heb⟩ := nm (row fR b)
 rw [← hea, ← heb]
 obtain ⟨v, hv⟩ := nm (decide (a = b))
 intro add sub mul arith eq ne lt le gt ge neg conv mn mx not beq len at' ln bd cut app allS isNil mks set o hP F ho
 have c1 : o 237 [R ea (.sp 0 0), R eb (.sp 1 0), ⟨.val, [⟨.fn 177 [], .sh⟩]⟩] = some ⟨[B v], [], none⟩ := by rw [ho, hv, hea, heb]; exact ok237 _ _ hl w rfl rfl
 cbv
 rw [c1]; cbv
 rw [← hr, hv]
end Go.Vm
