/- What the functions answer. -/
import Derived.Test.YtplnbpiaacohnaaL14Tab
set_option maxHeartbeats 4000000
set_option maxRecDepth 10000
set_option linter.unusedVariables false
set_option linter.unusedSimpArgs false
namespace Go.Vm

/- laws.eqIntS -/
theorem ok79 (a b : List Int) (hl : a.length ≤ 1099511627776) {f0 f1 : Fl} (h0 : inFl f0 = true) (h1 : inFl f1 = true) : fix Tb md 79 [R (row fI a) f0, R (row fI b) f1] = some ⟨[B (decide (a = b))], [], none⟩ := by
  refine fix_fn (fn := ir79) tb_79 rfl rfl (by decide) rfl ?_; simp only [shutArgs, shutS, List.map_cons, List.map_nil, ir79, shut_in h0, shut_in h1, List.head?_nil, reduceCtorEq, if_false, sExt, sHello, sAnswer, sEdit, sDeal, sBox, sDialed, sKnown]
  generalize hr : (⟨_, [], none⟩ : Ret) = r
  obtain ⟨ea, hea⟩ : ∃ y_, y_ = row fI a := ⟨_, rfl⟩
  obtain ⟨eb, heb⟩ : ∃ y_, y_ = row fI b := ⟨_, rfl⟩
  rw [← hea, ← heb]
  intro add sub mul arith eq ne lt le gt ge neg conv mn mx not beq len at' ln bd cut app allS isNil mks set o hP F ho
  have la := F.len_at hea
  have lb := F.len_at heb
  cbv
  by_cases hab : a.length = b.length
  · rw [F.ne_f (by unfold At at la lb; omega)]; cbv
    refine loop_ind hP (σ := List Int × List Int × List Int × Int) (fun s => [(0, R ea .sh), (1, R eb .sh), (4, B false), (5, I s.2.2.2)]) (fun s => At s.2.2.2 s.1.length ∧ a = s.1 ++ s.2.1 ∧ b = s.1 ++ s.2.2.1) (fun s => s.2.1.length) ([], a, b, 0) rfl ⟨rfl, rfl, rfl⟩ ?_
    rintro ⟨pre, sa, sb, i⟩ ⟨hi, ha, hb⟩ ih
    simp only at hi ha hb ih
    cbv
    have hlen : sa.length = sb.length := by simp [ha, hb] at hab; exact hab
    match sa, sb, hlen, ha, hb with
    | [], [], _, ha, hb =>
      rw [F.lt_f hi la (by simp [ha])]; cbv
      rw [← hr]; simp [ha, hb]
    | x :: sa, y :: sb, _, ha, hb =>
      rw [F.lt_t hi la (by simp [ha])]; cbv
      obtain ⟨ix, hix⟩ : ∃ y_, y_ = pre.length * 1 := ⟨_, rfl⟩
      rw [show at' 1 ea i = some (ix, [.int .i64 x]) by rw [hix]; exact F.get hi hea ha (fun _ => rfl) (by decide)]; cbv
      rw [show at' 1 eb i = some (ix, [.int .i64 y]) by rw [hix]; exact F.get hi heb hb (fun _ => rfl) (by decide)]; cbv
      by_cases hxy : x = y
      · rw [F.ne_f hxy]; cbv
        refine ih (pre ++ [x], sa, sb, add .i64 i 1) ⟨at_len (F.inc hi (by simp [ha] at hl; omega)) (by simp), by simp [ha], by simp [hb, hxy]⟩ (by simp)
      · rw [F.ne_t hxy]; cbv
        rw [← hr]; simp [ha, hb, hxy]
  · rw [F.ne_t (by unfold At at la lb; omega)]; cbv
    rw [← hr]
    simp
    intro e; exact hab (by rw [e])
theorem ok79t (a : List Int) (hl : a.length ≤ 1099511627776) {f0 f1 : Fl} (h0 : inFl f0 = true) (h1 : inFl f1 = true) : fix Tb md 79 [R (row fI a) f0, R (row fI a) f1] = some ⟨[B true], [], none⟩ := by simpa using ok79 a a hl h0 h1

/- laws.eqKnown -/
theorem ok242 (x : Known) (w : x.Mid) {f0 : Fl} (q0 : inFl f0 = true) {g0 : Fl} (p0 : inFl g0 = true) :
    fix Tb md 242 [sKnown x.cls (row fI x.lost) x.tick f0, sKnown x.cls (row fI x.lost) x.tick g0] = some ⟨[B true], [], none⟩ := by
  refine fix_fn (fn := ir242) tb_242 rfl rfl (by decide) rfl ?_; simp only [shutArgs, shutS, List.map_cons, List.map_nil, ir242, shut_in q0, shut_in p0, List.head?_nil, reduceCtorEq, if_false, sExt, sHello, sAnswer, sEdit, sDeal, sBox, sDialed, sKnown]
  generalize hr : (⟨_, [], none⟩ : Ret) = r
  obtain ⟨e1, he1⟩ : ∃ y_, y_ = row fI x.lost := ⟨_, rfl⟩
  rw [← he1]
  unfold Known.Mid at w
  intro add sub mul arith eq ne lt le gt ge neg conv mn mx not beq len at' ln bd cut app allS isNil mks set o hP F ho
  have c1 : o 79 [R e1 (.sp 0 0), R e1 (.sp 1 0)] = some ⟨[B true], [], none⟩ := by rw [ho, he1]; exact ok79t _ (by have := w; omega) rfl rfl
  cbv
  rw [F.ne_f rfl]; cbv
  rw [c1]; cbv
  rw [show not true = false by rw [F.not]; rfl]; cbv
  rw [F.ne_f rfl]; cbv
  exact congrArg some hr

/- laws.eqKnownS -/
theorem ok100 (l : List (Known)) (w : l.length ≤ 1073741824 ∧ ∀ y ∈ l, y.Mid) {f0 f1 : Fl} (q0 : inFl f0 = true) (q1 : inFl f1 = true) :
    fix Tb md 100 [R (row fKnown l) f0, R (row fKnown l) f1] = some ⟨[B true], [], none⟩ := by
  have w1 := w.1
  refine fix_fn (fn := ir100) tb_100 rfl rfl (by decide) rfl ?_; simp only [shutArgs, shutS, List.map_cons, List.map_nil, ir100, shut_in q0, shut_in q1, List.head?_nil, reduceCtorEq, if_false, sExt, sHello, sAnswer, sEdit, sDeal, sBox, sDialed, sKnown]
  generalize hr : (⟨_, [], none⟩ : Ret) = r
  obtain ⟨ea, hea⟩ : ∃ y_, y_ = row fKnown l := ⟨_, rfl⟩
  rw [← hea]
  intro add sub mul arith eq ne lt le gt ge neg conv mn mx not beq len at' ln bd cut app allS isNil mks set o hP F ho
  have la := F.len_at hea
  cbv
  rw [F.ne_f rfl]; cbv
  refine loop_ind hP (σ := List (Known) × List (Known) × Int) (fun s => [(0, R ea .sh), (1, R ea .sh), (4, B false), (5, I s.2.2)])
    (fun s => At s.2.2 s.2.1.length ∧ l = s.2.1 ++ s.1) (fun s => s.1.length) (l, [], 0) rfl ⟨rfl, rfl⟩ ?_
  rintro ⟨suf, pre, i⟩ ⟨hi, hl'⟩ ih
  simp only at hi hl' ih
  cbv
  cases suf with
  | nil =>
    rw [F.lt_f hi la (by simp [hl'])]; cbv
    exact congrArg some hr
  | cons x suf =>
    rw [F.lt_t hi la (by simp [hl'])]; cbv
    obtain ⟨e1, he1⟩ : ∃ y_, y_ = row fI x.lost := ⟨_, rfl⟩
    obtain ⟨ix, hix⟩ : ∃ y_, y_ = pre.length * 3 := ⟨_, rfl⟩
    have a1 : at' 3 ea i = some (ix, [.int .i64 x.cls, .row () e1, .int .i64 x.tick]) := by rw [hix, he1]; exact F.get hi hea hl' (fun _ => rfl) (by decide)
    rw [a1]; cbv
    try (rw [a1]; cbv)
    have c1 : o 242 [sKnown x.cls e1 x.tick (.sp 0 1), sKnown x.cls e1 x.tick (.sp 1 1)] = some ⟨[B true], [], none⟩ := by rw [ho, he1]; exact ok242 x (w.2 x (by rw [hl']; simp)) rfl rfl
    rw [c1]; cbv
    rw [show not true = false by rw [F.not]; rfl]; cbv
    refine ih (suf, pre ++ [x], add .i64 i 1) ⟨at_len (F.inc hi (by simp [hl'] at w1; omega)) (by simp), by simp [hl']⟩ (by simp)

/- spec.EqualInts -/
theorem ok228 (a b : List Int) (hl : a.length ≤ 1099511627776) {f0 f1 : Fl} (h0 : inFl f0 = true) (h1 : inFl f1 = true) : fix Tb md 228 [R (row fI a) f0, R (row fI b) f1] = some ⟨[B (decide (a = b))], [], none⟩ := by
  refine fix_fn (fn := ir228) tb_228 rfl rfl (by decide) rfl ?_; simp only [shutArgs, shutS, List.map_cons, List.map_nil, ir228, shut_in h0, shut_in h1, List.head?_nil, reduceCtorEq, if_false, sExt, sHello, sAnswer, sEdit, sDeal, sBox, sDialed, sKnown]
  generalize hr : (⟨_, [], none⟩ : Ret) = r
  obtain ⟨ea, hea⟩ : ∃ y_, y_ = row fI a := ⟨_, rfl⟩
  obtain ⟨eb, heb⟩ : ∃ y_, y_ = row fI b := ⟨_, rfl⟩
  rw [← hea, ← heb]
  intro add sub mul arith eq ne lt le gt ge neg conv mn mx not beq len at' ln bd cut app allS isNil mks set o hP F ho
  have la := F.len_at hea
  have lb := F.len_at heb
  cbv
  by_cases hab : a.length = b.length
  · rw [F.ne_f (by unfold At at la lb; omega)]; cbv
    refine loop_ind hP (σ := List Int × List Int × List Int × Int) (fun s => [(0, R ea .sh), (1, R eb .sh), (4, B false), (5, I s.2.2.2)]) (fun s => At s.2.2.2 s.1.length ∧ a = s.1 ++ s.2.1 ∧ b = s.1 ++ s.2.2.1) (fun s => s.2.1.length) ([], a, b, 0) rfl ⟨rfl, rfl, rfl⟩ ?_
    rintro ⟨pre, sa, sb, i⟩ ⟨hi, ha, hb⟩ ih
    simp only at hi ha hb ih
    cbv
    have hlen : sa.length = sb.length := by simp [ha, hb] at hab; exact hab
    match sa, sb, hlen, ha, hb with
    | [], [], _, ha, hb =>
      rw [F.lt_f hi la (by simp [ha])]; cbv
      rw [← hr]; simp [ha, hb]
    | x :: sa, y :: sb, _, ha, hb =>
      rw [F.lt_t hi la (by simp [ha])]; cbv
      obtain ⟨ix, hix⟩ : ∃ y_, y_ = pre.length * 1 := ⟨_, rfl⟩
      rw [show at' 1 ea i = some (ix, [.int .i64 x]) by rw [hix]; exact F.get hi hea ha (fun _ => rfl) (by decide)]; cbv
      rw [show at' 1 eb i = some (ix, [.int .i64 y]) by rw [hix]; exact F.get hi heb hb (fun _ => rfl) (by decide)]; cbv
      by_cases hxy : x = y
      · rw [F.ne_f hxy]; cbv
        refine ih (pre ++ [x], sa, sb, add .i64 i 1) ⟨at_len (F.inc hi (by simp [ha] at hl; omega)) (by simp), by simp [ha], by simp [hb, hxy]⟩ (by simp)
      · rw [F.ne_t hxy]; cbv
        rw [← hr]; simp [ha, hb, hxy]
  · rw [F.ne_t (by unfold At at la lb; omega)]; cbv
    rw [← hr]
    simp
    intro e; exact hab (by rw [e])

/- spec.CountStates -/
def Cap (n : Int) (k : Nat) : Prop := 0 ≤ n ∧ n + (k : Int) ≤ 1048576
theorem cap0 {k : Nat} (h : k ≤ 1048576) : Cap 0 k := ⟨by decide, by omega⟩
theorem Cap.up {n : Int} {k : Nat} (h : Cap n (k + 1)) : Cap (n + 1) k := by unfold Cap at *; omega
theorem Cap.stay {n : Int} {k : Nat} (h : Cap n (k + 1)) : Cap n k := by unfold Cap at *; omega
theorem Cap.wrap {n : Int} {k : Nat} (h : Cap n k) : IntKind.wrap .i64 (n + 1) = n + 1 := by unfold Cap at *; exact wrap64 (by omega) (by omega)
theorem notb_t {b : Bool} (h : true = !b) : b = false := by cases b <;> simp at h ⊢
theorem notb_f {b : Bool} (h : false = !b) : b = true := by cases b <;> simp at h ⊢
def cntGo : List Known → List Known → Int
  | _, [] => 0
  | pre, x :: suf => (if (pre.any fun y => decide (y.lost = x.lost)) = true then 0 else 1) + cntGo (pre ++ [x]) suf
theorem ok106 (l : List Known) (w : l.length ≤ 1048576 ∧ ∀ y ∈ l, y.lost.length ≤ 1048576) {f0 : Fl} (h0 : inFl f0 = true) : fix Tb md 106 [R (row fKnown l) f0] = some ⟨[I (cntGo [] l)], [], none⟩ := by
  have w1 := w.1
  obtain ⟨T, hT⟩ : ∃ y_, y_ = cntGo [] l := ⟨_, rfl⟩
  rw [← hT]
  generalize hr : (⟨_, [], none⟩ : Ret) = r
  obtain ⟨ea, hea⟩ : ∃ y_, y_ = row fKnown l := ⟨_, rfl⟩
  rw [← hea]
  refine fix_fn2 (fn := ir106) tb_106 rfl rfl (by decide) rfl ?_; intro Q hQ; simp only [shutArgs, shutS, List.map_cons, List.map_nil, ir106, shut_in h0, List.head?_nil, reduceCtorEq, if_false, sExt, sHello, sAnswer, sEdit, sDeal, sBox, sDialed, sKnown]
  intro add sub mul arith eq ne lt le gt ge neg conv mn mx not beq len at' ln bd cut app allS isNil mks set o hP F ho
  have la := F.len_at hea
  cbv
  refine loop_ind2 hP (σ := List Known × List Known × Int × Int × Option (Bool × Int)) (fun s => match s.2.2.2.2 with
      | none => [(0, R ea .sh), (2, I 0), (3, I s.2.2.2.1), (4, I s.2.2.1)]
      | some j => [(0, R ea .sh), (2, I 0), (3, I s.2.2.2.1), (4, I s.2.2.1), (5, B j.1), (6, I j.2)])
    (fun s => At s.2.2.1 s.1.length ∧ l = s.1 ++ s.2.1 ∧ s.2.2.2.1 + cntGo s.1 s.2.1 = T ∧ Cap s.2.2.2.1 s.2.1.length) (fun s => s.2.1.length) ([], l, 0, 0, none) rfl ⟨rfl, rfl, by simp [hT], cap0 w.1⟩ ?_
  intro c1 Q1 hc1 hQ1
  rintro ⟨pre, suf, i, n, j⟩ ⟨hi, hl', hb, hn⟩ ih
  simp only at hi hl' hb hn ih
  have hpre : pre.length ≤ 1048576 := by rw [hl'] at w1; simp at w1; omega
  cases j with
  | none =>
    cbv
    cases suf with
    | nil =>
      rw [F.lt_f hi la (by simp [hl'])]; cbv
      rw [hQ1]; cbv
      rw [hQ]; cbv
      rw [← hr, ← hb]; simp [cntGo]
    | cons x suf =>
      have hn1 : add .i64 n 1 = n + 1 := by rw [F.add, hn.wrap]
      rw [F.lt_t hi la (by simp [hl'])]; cbv
      obtain ⟨ix, hix⟩ : ∃ y_, y_ = pre.length * 3 := ⟨_, rfl⟩
      obtain ⟨e1, he1⟩ : ∃ y_, y_ = row fI x.lost := ⟨_, rfl⟩
      have hx := w.2 x (by rw [hl']; simp)
      have p0 : at' 3 ea i = some (ix, [.int .i64 x.cls, .row () e1, .int .i64 x.tick]) := by rw [hix, he1]; exact F.get hi hea hl' (fun _ => rfl) (by decide)
      refine loop_ind2 hP (σ := List Known × List Known × Int × Bool) (fun s => [(0, R ea .sh), (2, I 0), (3, I n), (4, I i), (5, B s.2.2.2), (6, I s.2.2.1)])
        (fun s => At s.2.2.1 s.1.length ∧ pre = s.1 ++ s.2.1 ∧ s.2.2.2 = !(s.1.any fun y => decide (y.lost = x.lost))) (fun s => s.2.1.length) ([], pre, 0, true) rfl ⟨rfl, rfl, rfl⟩ ?_
      intro c2' Q2 hc2 hQ2
      rintro ⟨p1, p2, k, b⟩ ⟨hk, hp, ha⟩ ih2
      simp only at hk hp ha ih2
      cbv
      cases p2 with
      | cons y p2 =>
        rw [F.lt_t hk hi (by rw [hp]; simp)]; cbv
        obtain ⟨iy, hiy⟩ : ∃ y_, y_ = p1.length * 3 := ⟨_, rfl⟩
        obtain ⟨e2, he2⟩ : ∃ y_, y_ = row fI y.lost := ⟨_, rfl⟩
        have hy := w.2 y (by rw [hl', hp]; simp)
        have p1' : at' 3 ea k = some (iy, [.int .i64 y.cls, .row () e2, .int .i64 y.tick]) := by rw [hiy, he2]; exact F.get hk hea (show l = p1 ++ y :: (p2 ++ x :: suf) by rw [hl', hp]; simp) (fun _ => rfl) (by decide)
        refine both (fun d4 => ?_) (fun d4 => ?_) <;> rw [d4] <;> cbv
        · rw [p1']; cbv
          rw [p0]; cbv
          obtain ⟨v, hv⟩ : ∃ y_, y_ = decide (y.lost = x.lost) := ⟨_, rfl⟩
          rw [show o 228 [R e2 (.sp 0 0), R e1 (.sp 1 0)] = some ⟨[B v], [], none⟩ by rw [ho, hv, he1, he2]; exact ok228 _ _ (by omega) rfl rfl]; cbv
          refine ih2 (p1 ++ [y], p2, add .i64 k 1, not v) ⟨at_len (F.inc hk (by rw [hp] at hpre; simp at hpre; omega)) (by simp), by simp [hp], ?_⟩ (by simp)
          rw [d4] at ha
          simp only
          rw [List.any_append, F.not, notb_t ha]; simp [hv]
        · refine ih2 (p1 ++ [y], p2, add .i64 k 1, false) ⟨at_len (F.inc hk (by rw [hp] at hpre; simp at hpre; omega)) (by simp), by simp [hp], ?_⟩ (by simp)
          rw [d4] at ha
          simp only
          rw [List.any_append, notb_f ha]; rfl
      | nil =>
        rw [F.lt_f hk hi (by rw [hp]; simp)]; cbv
        rw [hQ2]; cbv
        rw [show p1 = pre by rw [hp]; simp] at ha
        rw [show cntGo pre (x :: suf) = (if (pre.any fun y => decide (y.lost = x.lost)) = true then 0 else 1) + cntGo (pre ++ [x]) suf from rfl] at hb
        refine both (fun d4 => ?_) (fun d4 => ?_) <;> rw [d4] <;> cbv
        · rw [d4] at ha
          rw [notb_t ha] at hb
          rw [hn1]
          refine ih (pre ++ [x], suf, add .i64 i 1, n + 1, some (true, k)) ⟨at_len (F.inc hi (by omega)) (by simp), by simp [hl'], by simp at hb ⊢; omega, hn.up⟩ (by simp)
        · rw [d4] at ha
          rw [notb_f ha] at hb
          refine ih (pre ++ [x], suf, add .i64 i 1, n, some (false, k)) ⟨at_len (F.inc hi (by omega)) (by simp), by simp [hl'], by simp at hb ⊢; omega, hn.stay⟩ (by simp)
  | some jj =>
    obtain ⟨j5, j6⟩ := jj
    cbv
    cases suf with
    | nil =>
      rw [F.lt_f hi la (by simp [hl'])]; cbv
      rw [hQ1]; cbv
      rw [hQ]; cbv
      rw [← hr, ← hb]; simp [cntGo]
    | cons x suf =>
      have hn1 : add .i64 n 1 = n + 1 := by rw [F.add, hn.wrap]
      rw [F.lt_t hi la (by simp [hl'])]; cbv
      obtain ⟨ix, hix⟩ : ∃ y_, y_ = pre.length * 3 := ⟨_, rfl⟩
      obtain ⟨e1, he1⟩ : ∃ y_, y_ = row fI x.lost := ⟨_, rfl⟩
      have hx := w.2 x (by rw [hl']; simp)
      have p0 : at' 3 ea i = some (ix, [.int .i64 x.cls, .row () e1, .int .i64 x.tick]) := by rw [hix, he1]; exact F.get hi hea hl' (fun _ => rfl) (by decide)
      refine loop_ind2 hP (σ := List Known × List Known × Int × Bool) (fun s => [(0, R ea .sh), (2, I 0), (3, I n), (4, I i), (5, B s.2.2.2), (6, I s.2.2.1)])
        (fun s => At s.2.2.1 s.1.length ∧ pre = s.1 ++ s.2.1 ∧ s.2.2.2 = !(s.1.any fun y => decide (y.lost = x.lost))) (fun s => s.2.1.length) ([], pre, 0, true) rfl ⟨rfl, rfl, rfl⟩ ?_
      intro c2' Q2 hc2 hQ2
      rintro ⟨p1, p2, k, b⟩ ⟨hk, hp, ha⟩ ih2
      simp only at hk hp ha ih2
      cbv
      cases p2 with
      | cons y p2 =>
        rw [F.lt_t hk hi (by rw [hp]; simp)]; cbv
        obtain ⟨iy, hiy⟩ : ∃ y_, y_ = p1.length * 3 := ⟨_, rfl⟩
        obtain ⟨e2, he2⟩ : ∃ y_, y_ = row fI y.lost := ⟨_, rfl⟩
        have hy := w.2 y (by rw [hl', hp]; simp)
        have p1' : at' 3 ea k = some (iy, [.int .i64 y.cls, .row () e2, .int .i64 y.tick]) := by rw [hiy, he2]; exact F.get hk hea (show l = p1 ++ y :: (p2 ++ x :: suf) by rw [hl', hp]; simp) (fun _ => rfl) (by decide)
        refine both (fun d4 => ?_) (fun d4 => ?_) <;> rw [d4] <;> cbv
        · rw [p1']; cbv
          rw [p0]; cbv
          obtain ⟨v, hv⟩ : ∃ y_, y_ = decide (y.lost = x.lost) := ⟨_, rfl⟩
          rw [show o 228 [R e2 (.sp 0 0), R e1 (.sp 1 0)] = some ⟨[B v], [], none⟩ by rw [ho, hv, he1, he2]; exact ok228 _ _ (by omega) rfl rfl]; cbv
          refine ih2 (p1 ++ [y], p2, add .i64 k 1, not v) ⟨at_len (F.inc hk (by rw [hp] at hpre; simp at hpre; omega)) (by simp), by simp [hp], ?_⟩ (by simp)
          rw [d4] at ha
          simp only
          rw [List.any_append, F.not, notb_t ha]; simp [hv]
        · refine ih2 (p1 ++ [y], p2, add .i64 k 1, false) ⟨at_len (F.inc hk (by rw [hp] at hpre; simp at hpre; omega)) (by simp), by simp [hp], ?_⟩ (by simp)
          rw [d4] at ha
          simp only
          rw [List.any_append, notb_f ha]; rfl
      | nil =>
        rw [F.lt_f hk hi (by rw [hp]; simp)]; cbv
        rw [hQ2]; cbv
        rw [show p1 = pre by rw [hp]; simp] at ha
        rw [show cntGo pre (x :: suf) = (if (pre.any fun y => decide (y.lost = x.lost)) = true then 0 else 1) + cntGo (pre ++ [x]) suf from rfl] at hb
        refine both (fun d4 => ?_) (fun d4 => ?_) <;> rw [d4] <;> cbv
        · rw [d4] at ha
          rw [notb_t ha] at hb
          rw [hn1]
          refine ih (pre ++ [x], suf, add .i64 i 1, n + 1, some (true, k)) ⟨at_len (F.inc hi (by omega)) (by simp), by simp [hl'], by simp at hb ⊢; omega, hn.up⟩ (by simp)
        · rw [d4] at ha
          rw [notb_f ha] at hb
          refine ih (pre ++ [x], suf, add .i64 i 1, n, some (false, k)) ⟨at_len (F.inc hi (by omega)) (by simp), by simp [hl'], by simp at hb ⊢; omega, hn.stay⟩ (by simp)

def ixOf {α : Type} (p : α → Bool) : List α → Int → Int
  | [], _ => -1
  | x :: l, i => if p x = true then i else ixOf p l (i + 1)
theorem ixOf_ge {α : Type} (p : α → Bool) : ∀ (l : List α) (i : Int), 0 ≤ i → decide (0 ≤ ixOf p l i) = l.any p
  | [], i, h => by simp [ixOf]
  | x :: l, i, h => by
    unfold ixOf
    rw [List.any_cons]
    by_cases hx : p x = true
    · rw [if_pos hx, hx]; simpa using h
    · rw [if_neg hx, ixOf_ge p l (i + 1) (by omega)]; simp at hx; simp [hx]
theorem ixOf_none {α : Type} {p : α → Bool} : ∀ {l : List α} {i : Int}, l.any p = false → ixOf p l i = -1
  | [], i, _ => rfl
  | x :: l, i, h => by
    rw [List.any_cons, Bool.or_eq_false_iff] at h
    unfold ixOf
    rw [if_neg (by rw [h.1]; decide), ixOf_none h.2]

/- impl.Known] -/
theorem ok342_0 (g : Nat) (hg : md g = []) (p : Known → Bool) (l : List Known) (hl : l.length ≤ 1099511627776) (hp : ∀ x ∈ l, fix Tb md g [sKnown x.cls (row fI x.lost) x.tick (.sp 0 1)] = some ⟨[B (p x)], [], none⟩) {f0 : Fl} (h0 : inFl f0 = true) :
    fix Tb md 342 [R (row fKnown l) f0, ⟨.val, [⟨.fn g [], .sh⟩]⟩] = some ⟨[I (ixOf p l 0)], [], none⟩ := by
  generalize hm : md = m at hg hp ⊢
  refine fix_fn (fn := ir342) tb_342 rfl rfl (by decide) rfl ?_; simp only [shutArgs, shutS, List.map_cons, List.map_nil, ir342, shut_in h0, List.head?_nil, reduceCtorEq, if_false, sExt, sHello, sAnswer, sEdit, sDeal, sBox, sDialed, sKnown]
  generalize hr : (⟨_, [], none⟩ : Ret) = r
  obtain ⟨ea, hea⟩ : ∃ y_, y_ = row fKnown l := ⟨_, rfl⟩
  rw [← hea]
  intro add sub mul arith eq ne lt le gt ge neg conv mn mx not beq len at' ln bd cut app allS isNil mks set o hP F ho
  have la := F.len_at hea
  cbv
  refine loop_ind hP (σ := List Known × List Known × Int × Option Int) (fun s => match s.2.2.2 with | none => [(0, R ea .sh), (1, ⟨.val, [⟨.fn g [], .sh⟩]⟩), (4, I 0), (7, I (len ea)), (8, I s.2.2.1)] | some j => [(0, R ea .sh), (1, ⟨.val, [⟨.fn g [], .sh⟩]⟩), (4, I 0), (5, I j), (7, I (len ea)), (8, I s.2.2.1)])
    (fun s => At s.2.2.1 s.2.1.length ∧ l = s.2.1 ++ s.1 ∧ ixOf p s.1 (s.2.1.length : Int) = ixOf p l 0) (fun s => s.1.length) (l, [], 0, none) rfl ⟨rfl, rfl, rfl⟩ ?_
  rintro ⟨suf, pre, i, j⟩ ⟨hi, hl', hx⟩ ih
  simp only at hi hl' hx ih
  have hi' : i = (pre.length : Int) := hi
  rw [← hi'] at hx
  cases j <;> cbv <;> (
    cases suf with
    | nil =>
      rw [F.lt_f hi la (by simp [hl'])]; cbv
      rw [← hr, ← hx]; rfl
    | cons x suf =>
      rw [F.lt_t hi la (by simp [hl'])]; cbv
      obtain ⟨e1, he1⟩ : ∃ y_, y_ = row fI x.lost := ⟨_, rfl⟩
      obtain ⟨ix, hix⟩ : ∃ y_, y_ = pre.length * 3 := ⟨_, rfl⟩
      rw [show at' 3 ea i = some (ix, [.int .i64 x.cls, .row () e1, .int .i64 x.tick]) by rw [hix, he1]; exact F.get hi hea hl' (fun _ => rfl) (by decide)]; cbv
      obtain ⟨v, hv⟩ : ∃ y_, y_ = p x := ⟨_, rfl⟩
      have c1 : o g [sKnown x.cls e1 x.tick (.sp 0 1)] = some ⟨[B v], [], none⟩ := by rw [ho, hv, he1]; exact hp x (by rw [hl']; simp)
      rw [hg]; cbv
      rw [c1]; cbv
      have hx1 : ixOf p (x :: suf) i = if p x = true then i else ixOf p suf (i + 1) := rfl
      rw [hx1] at hx
      refine both (fun c => ?_) (fun c => ?_) <;> rw [c] <;> cbv
      · rw [← hv, if_pos c] at hx
        rw [← hr, ← hx]
      · rw [← hv, if_neg (by simp [c])] at hx
        refine ih (suf, pre ++ [x], add .i64 i 1, some i) ⟨at_len (F.inc hi (by simp [hl'] at hl; omega)) (by simp), by simp [hl'], ?_⟩ (by simp)
        rw [← hx, hi']
        simp)
theorem ok342_1 (g : Nat) (hg : md g = []) (k0 : V) (p : Known → Bool) (l : List Known) (hl : l.length ≤ 1099511627776) (hp : ∀ x ∈ l, fix Tb md g [sKnown x.cls (row fI x.lost) x.tick (.sp 0 1), ⟨.val, [⟨k0, .sh⟩]⟩] = some ⟨[B (p x)], [], none⟩) {f0 : Fl} (h0 : inFl f0 = true) :
    fix Tb md 342 [R (row fKnown l) f0, ⟨.val, [⟨.fn g [k0], .sh⟩]⟩] = some ⟨[I (ixOf p l 0)], [], none⟩ := by
  generalize hm : md = m at hg hp ⊢
  refine fix_fn (fn := ir342) tb_342 rfl rfl (by decide) rfl ?_; simp only [shutArgs, shutS, List.map_cons, List.map_nil, ir342, shut_in h0, List.head?_nil, reduceCtorEq, if_false, sExt, sHello, sAnswer, sEdit, sDeal, sBox, sDialed, sKnown]
  generalize hr : (⟨_, [], none⟩ : Ret) = r
  obtain ⟨ea, hea⟩ : ∃ y_, y_ = row fKnown l := ⟨_, rfl⟩
  rw [← hea]
  intro add sub mul arith eq ne lt le gt ge neg conv mn mx not beq len at' ln bd cut app allS isNil mks set o hP F ho
  have la := F.len_at hea
  cbv
  refine loop_ind hP (σ := List Known × List Known × Int × Option Int) (fun s => match s.2.2.2 with | none => [(0, R ea .sh), (1, ⟨.val, [⟨.fn g [k0], .sh⟩]⟩), (4, I 0), (7, I (len ea)), (8, I s.2.2.1)] | some j => [(0, R ea .sh), (1, ⟨.val, [⟨.fn g [k0], .sh⟩]⟩), (4, I 0), (5, I j), (7, I (len ea)), (8, I s.2.2.1)])
    (fun s => At s.2.2.1 s.2.1.length ∧ l = s.2.1 ++ s.1 ∧ ixOf p s.1 (s.2.1.length : Int) = ixOf p l 0) (fun s => s.1.length) (l, [], 0, none) rfl ⟨rfl, rfl, rfl⟩ ?_
  rintro ⟨suf, pre, i, j⟩ ⟨hi, hl', hx⟩ ih
  simp only at hi hl' hx ih
  have hi' : i = (pre.length : Int) := hi
  rw [← hi'] at hx
  cases j <;> cbv <;> (
    cases suf with
    | nil =>
      rw [F.lt_f hi la (by simp [hl'])]; cbv
      rw [← hr, ← hx]; rfl
    | cons x suf =>
      rw [F.lt_t hi la (by simp [hl'])]; cbv
      obtain ⟨e1, he1⟩ : ∃ y_, y_ = row fI x.lost := ⟨_, rfl⟩
      obtain ⟨ix, hix⟩ : ∃ y_, y_ = pre.length * 3 := ⟨_, rfl⟩
      rw [show at' 3 ea i = some (ix, [.int .i64 x.cls, .row () e1, .int .i64 x.tick]) by rw [hix, he1]; exact F.get hi hea hl' (fun _ => rfl) (by decide)]; cbv
      obtain ⟨v, hv⟩ : ∃ y_, y_ = p x := ⟨_, rfl⟩
      have c1 : o g [sKnown x.cls e1 x.tick (.sp 0 1), ⟨.val, [⟨k0, .sh⟩]⟩] = some ⟨[B v], [], none⟩ := by rw [ho, hv, he1]; exact hp x (by rw [hl']; simp)
      rw [hg]; cbv
      rw [c1]; cbv
      have hx1 : ixOf p (x :: suf) i = if p x = true then i else ixOf p suf (i + 1) := rfl
      rw [hx1] at hx
      refine both (fun c => ?_) (fun c => ?_) <;> rw [c] <;> cbv
      · rw [← hv, if_pos c] at hx
        rw [← hr, ← hx]
      · rw [← hv, if_neg (by simp [c])] at hx
        refine ih (suf, pre ++ [x], add .i64 i 1, some i) ⟨at_len (F.inc hi (by simp [hl'] at hl; omega)) (by simp), by simp [hl'], ?_⟩ (by simp)
        rw [← hx, hi']
        simp)

/- impl.Known] -/
theorem ok240_0 (g : Nat) (hg : md g = []) (p : Known → Bool) (l : List Known) (hl : l.length ≤ 1099511627776) (hp : ∀ x ∈ l, fix Tb md g [sKnown x.cls (row fI x.lost) x.tick (.sp 0 1)] = some ⟨[B (p x)], [], none⟩) {f0 : Fl} (h0 : inFl f0 = true) :
    fix Tb md 240 [R (row fKnown l) f0, ⟨.val, [⟨.fn g [], .sh⟩]⟩] = some ⟨[B (l.any p)], [], none⟩ := by
  refine fix_fn (fn := ir240) tb_240 rfl rfl (by decide) rfl ?_; simp only [shutArgs, shutS, List.map_cons, List.map_nil, ir240, shut_in h0, List.head?_nil, reduceCtorEq, if_false, sExt, sHello, sAnswer, sEdit, sDeal, sBox, sDialed, sKnown]
  generalize hr : (⟨_, [], none⟩ : Ret) = r
  obtain ⟨ea, hea⟩ : ∃ y_, y_ = row fKnown l := ⟨_, rfl⟩
  rw [← hea]
  obtain ⟨v, hv⟩ : ∃ y_, y_ = ixOf p l 0 := ⟨_, rfl⟩
  have hv2 : decide (0 ≤ v) = l.any p := by rw [hv]; exact ixOf_ge p l 0 (by decide)
  rw [← hv2] at hr
  clear hv2
  intro add sub mul arith eq ne lt le gt ge neg conv mn mx not beq len at' ln bd cut app allS isNil mks set o hP F ho
  have c1 : o 342 [R ea (.sp 0 0), ⟨.val, [⟨.fn g [], .sh⟩]⟩] = some ⟨[I v], [], none⟩ := by rw [ho, hv, hea]; exact ok342_0 g hg p l hl hp rfl
  cbv
  rw [c1]; cbv
  rw [← hr, F.ge]
theorem ok240_1 (g : Nat) (hg : md g = []) (k0 : V) (p : Known → Bool) (l : List Known) (hl : l.length ≤ 1099511627776) (hp : ∀ x ∈ l, fix Tb md g [sKnown x.cls (row fI x.lost) x.tick (.sp 0 1), ⟨.val, [⟨k0, .sh⟩]⟩] = some ⟨[B (p x)], [], none⟩) {f0 : Fl} (h0 : inFl f0 = true) :
    fix Tb md 240 [R (row fKnown l) f0, ⟨.val, [⟨.fn g [k0], .sh⟩]⟩] = some ⟨[B (l.any p)], [], none⟩ := by
  refine fix_fn (fn := ir240) tb_240 rfl rfl (by decide) rfl ?_; simp only [shutArgs, shutS, List.map_cons, List.map_nil, ir240, shut_in h0, List.head?_nil, reduceCtorEq, if_false, sExt, sHello, sAnswer, sEdit, sDeal, sBox, sDialed, sKnown]
  generalize hr : (⟨_, [], none⟩ : Ret) = r
  obtain ⟨ea, hea⟩ : ∃ y_, y_ = row fKnown l := ⟨_, rfl⟩
  rw [← hea]
  obtain ⟨v, hv⟩ : ∃ y_, y_ = ixOf p l 0 := ⟨_, rfl⟩
  have hv2 : decide (0 ≤ v) = l.any p := by rw [hv]; exact ixOf_ge p l 0 (by decide)
  rw [← hv2] at hr
  clear hv2
  intro add sub mul arith eq ne lt le gt ge neg conv mn mx not beq len at' ln bd cut app allS isNil mks set o hP F ho
  have c1 : o 342 [R ea (.sp 0 0), ⟨.val, [⟨.fn g [k0], .sh⟩]⟩] = some ⟨[I v], [], none⟩ := by rw [ho, hv, hea]; exact ok342_1 g hg k0 p l hl hp rfl
  cbv
  rw [c1]; cbv
  rw [← hr, F.ge]

/- slices.Equal[[]int,int] -/
theorem ok229 (a b : List Int) (hl : a.length ≤ 1099511627776) {f0 f1 : Fl} (h0 : inFl f0 = true) (h1 : inFl f1 = true) : fix Tb md 229 [R (row fI a) f0, R (row fI b) f1] = some ⟨[B (decide (a = b))], [], none⟩ := by
  refine fix_fn (fn := ir229) tb_229 rfl rfl (by decide) rfl ?_; simp only [shutArgs, shutS, List.map_cons, List.map_nil, ir229, shut_in h0, shut_in h1, List.head?_nil, reduceCtorEq, if_false, sExt, sHello, sAnswer, sEdit, sDeal, sBox, sDialed, sKnown]
  generalize hr : (⟨_, [], none⟩ : Ret) = r
  obtain ⟨ea, hea⟩ : ∃ y_, y_ = row fI a := ⟨_, rfl⟩
  obtain ⟨eb, heb⟩ : ∃ y_, y_ = row fI b := ⟨_, rfl⟩
  rw [← hea, ← heb]
  intro add sub mul arith eq ne lt le gt ge neg conv mn mx not beq len at' ln bd cut app allS isNil mks set o hP F ho
  have la := F.len_at hea
  have lb := F.len_at heb
  cbv
  by_cases hab : a.length = b.length
  · rw [F.ne_f (by unfold At at la lb; omega)]; cbv
    refine loop_ind hP (σ := List Int × List Int × List Int × Int × Option Int) (fun s => match s.2.2.2.2 with | none => [(0, R ea .sh), (1, R eb .sh), (4, B false), (12, I (len ea)), (13, I s.2.2.2.1)] | some j => [(0, R ea .sh), (1, R eb .sh), (4, B false), (5, I j), (12, I (len ea)), (13, I s.2.2.2.1)]) (fun s => At s.2.2.2.1 s.1.length ∧ a = s.1 ++ s.2.1 ∧ b = s.1 ++ s.2.2.1) (fun s => s.2.1.length) ([], a, b, 0, none) rfl ⟨rfl, rfl, rfl⟩ ?_
    rintro ⟨pre, sa, sb, i, j⟩ ⟨hi, ha, hb⟩ ih
    simp only at hi ha hb ih
    have hlen : sa.length = sb.length := by simp [ha, hb] at hab; exact hab
    cases j <;> cbv <;> (
      match sa, sb, hlen, ha, hb with
      | [], [], _, ha, hb =>
        rw [F.lt_f hi la (by simp [ha])]; cbv
        rw [← hr]; simp [ha, hb]
      | x :: sa, y :: sb, _, ha, hb =>
        rw [F.lt_t hi la (by simp [ha])]; cbv
        obtain ⟨ix, hix⟩ : ∃ y_, y_ = pre.length * 1 := ⟨_, rfl⟩
        rw [show at' 1 ea i = some (ix, [.int .i64 x]) by rw [hix]; exact F.get hi hea ha (fun _ => rfl) (by decide)]; cbv
        rw [show at' 1 eb i = some (ix, [.int .i64 y]) by rw [hix]; exact F.get hi heb hb (fun _ => rfl) (by decide)]; cbv
        by_cases hxy : x = y
        · rw [F.ne_f hxy]; cbv
          refine ih (pre ++ [x], sa, sb, add .i64 i 1, some i) ⟨at_len (F.inc hi (by simp [ha] at hl; omega)) (by simp), by simp [ha], by simp [hb, hxy]⟩ (by simp)
        · rw [F.ne_t hxy]; cbv
          rw [← hr]; simp [ha, hb, hxy])
  · rw [F.ne_t (by unfold At at la lb; omega)]; cbv
    rw [← hr]
    simp
    intro e; exact hab (by rw [e])

/- impl.CountStates$1 -/
theorem ok245 (y : Known) (z : List Int) (a c : Int) (hy : y.lost.length ≤ 1099511627776) {f0 : Fl} (h0 : inFl f0 = true) : fix Tb md 245 [sKnown y.cls (row fI y.lost) y.tick f0, ⟨.val, [⟨.ptr () [.int .i64 a, .row () (row fI z), .int .i64 c], .sh⟩]⟩] = some ⟨[B (decide (y.lost = z))], [], none⟩ := by
  obtain ⟨v, hv⟩ : ∃ y_, y_ = decide (y.lost = z) := ⟨_, rfl⟩
  rw [← hv]
  generalize hr : (⟨_, [], none⟩ : Ret) = r
  obtain ⟨ey, hey⟩ : ∃ y_, y_ = row fI y.lost := ⟨_, rfl⟩
  obtain ⟨ez, hez⟩ : ∃ y_, y_ = row fI z := ⟨_, rfl⟩
  rw [← hey, ← hez]
  refine fix_fn2 (fn := ir245) tb_245 rfl rfl (by decide) rfl ?_; intro Q hQ; simp only [shutArgs, shutS, List.map_cons, List.map_nil, ir245, shut_in h0, List.head?_nil, reduceCtorEq, if_false, sExt, sHello, sAnswer, sEdit, sDeal, sBox, sDialed, sKnown]
  intro add sub mul arith eq ne lt le gt ge neg conv mn mx not beq len at' ln bd cut app allS isNil mks set o hP F ho
  have c1 : o 229 [R ey (.sp 0 0), R ez (.sp 1 0)] = some ⟨[B v], [], none⟩ := by rw [ho, hv, hey, hez]; exact ok229 _ _ hy rfl rfl
  cbv
  rw [c1]; cbv
  rw [hQ]; cbv
  exact congrArg some hr

/- impl.CountStates -/
theorem ok107 (l : List Known) (w : l.length ≤ 1048576 ∧ ∀ y ∈ l, y.lost.length ≤ 1048576) {f0 : Fl} (h0 : inFl f0 = true) : fix Tb md 107 [R (row fKnown l) f0] = some ⟨[I (cntGo [] l)], [], none⟩ := by
  have w1 := w.1
  obtain ⟨T, hT⟩ : ∃ y_, y_ = cntGo [] l := ⟨_, rfl⟩
  rw [← hT]
  generalize hr : (⟨_, [], none⟩ : Ret) = r
  obtain ⟨ea, hea⟩ : ∃ y_, y_ = row fKnown l := ⟨_, rfl⟩
  rw [← hea]
  refine fix_fn2 (fn := ir107) tb_107 rfl rfl (by decide) rfl ?_; intro Q hQ; simp only [shutArgs, shutS, List.map_cons, List.map_nil, ir107, shut_in h0, List.head?_nil, reduceCtorEq, if_false, sExt, sHello, sAnswer, sEdit, sDeal, sBox, sDialed, sKnown]
  intro add sub mul arith eq ne lt le gt ge neg conv mn mx not beq len at' ln bd cut app allS isNil mks set o hP F ho
  have la := F.len_at hea
  cbv
  refine loop_ind2 hP (σ := List Known × List Known × Int × Int × Option (Int × Int × List (List V) × Int)) (fun s => match s.2.2.2.2 with
      | none => [(0, R ea .sh), (2, I 0), (3, I s.2.2.2.1), (6, R ea .sh), (7, I (len ea)), (8, I s.2.2.1)]
      | some j => [(0, R ea .sh), (2, I 0), (3, I s.2.2.2.1), (4, I j.1), (5, ⟨.ptr 28 0, []⟩), (6, R ea .sh), (7, I (len ea)), (8, I s.2.2.1), (28, ⟨.box (), [⟨.int .i64 j.2.1, .sc⟩, ⟨.row () j.2.2.1, .sh⟩, ⟨.int .i64 j.2.2.2, .sc⟩]⟩)])
    (fun s => At s.2.2.1 s.1.length ∧ l = s.1 ++ s.2.1 ∧ s.2.2.2.1 + cntGo s.1 s.2.1 = T ∧ Cap s.2.2.2.1 s.2.1.length) (fun s => s.2.1.length) ([], l, 0, 0, none) rfl ⟨rfl, rfl, by simp [hT], cap0 w.1⟩ ?_
  intro c1 Q1 hc1 hQ1
  rintro ⟨pre, suf, i, n, j⟩ ⟨hi, hl', hb, hn⟩ ih
  simp only at hi hl' hb hn ih
  have hpre : pre.length ≤ 1048576 := by rw [hl'] at w1; simp at w1; omega
  cases j with
  | none =>
    cbv
    cases suf with
    | nil =>
      rw [F.lt_f hi la (by simp [hl'])]; cbv
      rw [hQ1]; cbv
      rw [hQ]; cbv
      rw [← hr, ← hb]; simp [cntGo]
    | cons x suf =>
      have hn1 : add .i64 n 1 = n + 1 := by rw [F.add, hn.wrap]
      rw [F.lt_t hi la (by simp [hl'])]; cbv
      obtain ⟨ix, hix⟩ : ∃ y_, y_ = pre.length * 3 := ⟨_, rfl⟩
      obtain ⟨e1, he1⟩ : ∃ y_, y_ = row fI x.lost := ⟨_, rfl⟩
      rw [show at' 3 ea i = some (ix, [.int .i64 x.cls, .row () e1, .int .i64 x.tick]) by rw [hix, he1]; exact F.get hi hea hl' (fun _ => rfl) (by decide)]; cbv
      obtain ⟨m, hm⟩ : ∃ y_, y_ = pre.length := ⟨_, rfl⟩
      rw [show bd (ln ea) i = some m by rw [F.ln' hea, hm]; exact F.bd' hi (by rw [hl']; simp)]; cbv
      obtain ⟨ep, hep⟩ : ∃ y_, y_ = row fKnown pre := ⟨_, rfl⟩
      rw [show cut 3 ea m 0 = some ep by rw [F.cut' hea (fun _ => rfl), hep, hl', hm]; simp]; cbv
      obtain ⟨v, hv⟩ : ∃ y_, y_ = pre.any fun y => decide (y.lost = x.lost) := ⟨_, rfl⟩
      rw [show cntGo pre (x :: suf) = (if (pre.any fun y => decide (y.lost = x.lost)) = true then 0 else 1) + cntGo (pre ++ [x]) suf from rfl, ← hv] at hb
      have c5 : o 240 [R ep (.sp 0 0), ⟨.val, [⟨.fn 245 [.ptr () [.int .i64 x.cls, .row () e1, .int .i64 x.tick]], .sh⟩]⟩] = some ⟨[B v], [], none⟩ := by rw [ho, hv, hep, he1]; exact ok240_1 245 rfl _ (fun y => decide (y.lost = x.lost)) pre (by omega) (fun y hy => ok245 y _ _ _ (by have := w.2 y (by rw [hl']; simp [hy]); omega) rfl) rfl
      rw [c5]; cbv
      refine both (fun d4 => ?_) (fun d4 => ?_) <;> rw [d4] <;> cbv
      · rw [F.not_t d4] at hb
        rw [hn1]
        refine ih (pre ++ [x], suf, add .i64 i 1, n + 1, some (i, x.cls, e1, x.tick)) ⟨at_len (F.inc hi (by omega)) (by simp), by simp [hl'], by simp at hb ⊢; omega, hn.up⟩ (by simp)
      · rw [F.not_f d4] at hb
        refine ih (pre ++ [x], suf, add .i64 i 1, n, some (i, x.cls, e1, x.tick)) ⟨at_len (F.inc hi (by omega)) (by simp), by simp [hl'], by simp at hb ⊢; omega, hn.stay⟩ (by simp)
  | some jj =>
    obtain ⟨j5, j6, j7, j8⟩ := jj
    cbv
    cases suf with
    | nil =>
      rw [F.lt_f hi la (by simp [hl'])]; cbv
      rw [hQ1]; cbv
      rw [hQ]; cbv
      rw [← hr, ← hb]; simp [cntGo]
    | cons x suf =>
      have hn1 : add .i64 n 1 = n + 1 := by rw [F.add, hn.wrap]
      rw [F.lt_t hi la (by simp [hl'])]; cbv
      obtain ⟨ix, hix⟩ : ∃ y_, y_ = pre.length * 3 := ⟨_, rfl⟩
      obtain ⟨e1, he1⟩ : ∃ y_, y_ = row fI x.lost := ⟨_, rfl⟩
      rw [show at' 3 ea i = some (ix, [.int .i64 x.cls, .row () e1, .int .i64 x.tick]) by rw [hix, he1]; exact F.get hi hea hl' (fun _ => rfl) (by decide)]; cbv
      obtain ⟨m, hm⟩ : ∃ y_, y_ = pre.length := ⟨_, rfl⟩
      rw [show bd (ln ea) i = some m by rw [F.ln' hea, hm]; exact F.bd' hi (by rw [hl']; simp)]; cbv
      obtain ⟨ep, hep⟩ : ∃ y_, y_ = row fKnown pre := ⟨_, rfl⟩
      rw [show cut 3 ea m 0 = some ep by rw [F.cut' hea (fun _ => rfl), hep, hl', hm]; simp]; cbv
      obtain ⟨v, hv⟩ : ∃ y_, y_ = pre.any fun y => decide (y.lost = x.lost) := ⟨_, rfl⟩
      rw [show cntGo pre (x :: suf) = (if (pre.any fun y => decide (y.lost = x.lost)) = true then 0 else 1) + cntGo (pre ++ [x]) suf from rfl, ← hv] at hb
      have c5 : o 240 [R ep (.sp 0 0), ⟨.val, [⟨.fn 245 [.ptr () [.int .i64 x.cls, .row () e1, .int .i64 x.tick]], .sh⟩]⟩] = some ⟨[B v], [], none⟩ := by rw [ho, hv, hep, he1]; exact ok240_1 245 rfl _ (fun y => decide (y.lost = x.lost)) pre (by omega) (fun y hy => ok245 y _ _ _ (by have := w.2 y (by rw [hl']; simp [hy]); omega) rfl) rfl
      rw [c5]; cbv
      refine both (fun d4 => ?_) (fun d4 => ?_) <;> rw [d4] <;> cbv
      · rw [F.not_t d4] at hb
        rw [hn1]
        refine ih (pre ++ [x], suf, add .i64 i 1, n + 1, some (i, x.cls, e1, x.tick)) ⟨at_len (F.inc hi (by omega)) (by simp), by simp [hl'], by simp at hb ⊢; omega, hn.up⟩ (by simp)
      · rw [F.not_f d4] at hb
        refine ih (pre ++ [x], suf, add .i64 i 1, n, some (i, x.cls, e1, x.tick)) ⟨at_len (F.inc hi (by omega)) (by simp), by simp [hl'], by simp at hb ⊢; omega, hn.stay⟩ (by simp)

/- laws.szIntS -/
theorem ok227 {α : Type} (f : α → List V) (l : List α) (left : Int) (h : l.length ≤ 9223372036854775807) (h1 : 0 ≤ left) (h2 : left ≤ 1048576) {f0 : Fl} (h0 : inFl f0 = true) : fix Tb md 227 [R (row f l) f0, I left] = some ⟨[I (sz1 l.length left)], [], none⟩ := by
  by_cases hl : left - l.length < 0
  · rw [show sz1 l.length left = -1 by unfold sz1; rw [if_pos hl]]
    refine fix_fn (fn := ir227) tb_227 rfl rfl (by decide) rfl ?_; simp only [shutArgs, shutS, List.map_cons, List.map_nil, ir227, shut_in h0, List.head?_nil, reduceCtorEq, if_false, sExt, sHello, sAnswer, sEdit, sDeal, sBox, sDialed, sKnown]
    generalize hr : (⟨_, [], none⟩ : Ret) = r
    obtain ⟨ea, hea⟩ : ∃ y_, y_ = row f l := ⟨_, rfl⟩
    rw [← hea]
    intro add sub mul arith eq ne lt le gt ge neg conv mn mx not beq len at' ln bd cut app allS isNil mks set o hP F ho
    have le := F.len_at hea
    unfold At at le
    have hs : lt (sub .i64 left (len ea)) 0 = true := by rw [F.lt, F.sub, le, wrap64 (by omega) (by omega)]; simp; omega
    cbv
    rw [hs]
    cbv
    exact congrArg some hr
  · rw [show sz1 l.length left = left - l.length by unfold sz1; rw [if_neg hl]]
    refine fix_fn (fn := ir227) tb_227 rfl rfl (by decide) rfl ?_; simp only [shutArgs, shutS, List.map_cons, List.map_nil, ir227, shut_in h0, List.head?_nil, reduceCtorEq, if_false, sExt, sHello, sAnswer, sEdit, sDeal, sBox, sDialed, sKnown]
    obtain ⟨v, hv⟩ : ∃ y_, y_ = left - l.length := ⟨_, rfl⟩
    rw [← hv]
    generalize hr : (⟨_, [], none⟩ : Ret) = r
    obtain ⟨ea, hea⟩ : ∃ y_, y_ = row f l := ⟨_, rfl⟩
    rw [← hea]
    intro add sub mul arith eq ne lt le gt ge neg conv mn mx not beq len at' ln bd cut app allS isNil mks set o hP F ho
    have le := F.len_at hea
    unfold At at le
    have e1 : sub .i64 left (len ea) = v := by rw [F.sub, le, wrap64 (by omega) (by omega), hv]
    have hs : lt v 0 = false := by rw [F.lt, hv]; simp; omega
    cbv
    rw [e1, hs]
    cbv
    exact congrArg some hr

/- laws.szKnown -/
theorem ok238 (x : Known) (left : Int) (w : x.Fits) (h1 : 0 ≤ left) (h2 : left ≤ 1048576) {f0 : Fl} (q0 : inFl f0 = true) :
    fix Tb md 238 [sKnown x.cls (row fI x.lost) x.tick f0, I left] = some ⟨[I (szKnown x left)], [], none⟩ := by
  refine fix_fn (fn := ir238) tb_238 rfl rfl (by decide) rfl ?_; simp only [shutArgs, shutS, List.map_cons, List.map_nil, ir238, shut_in q0, List.head?_nil, reduceCtorEq, if_false, sExt, sHello, sAnswer, sEdit, sDeal, sBox, sDialed, sKnown]
  obtain ⟨v1, hv1⟩ : ∃ y_, y_ = sz1 x.lost.length left := ⟨_, rfl⟩
  rw [show szKnown x left = v1 by rw [hv1]; rfl]
  generalize hr : (⟨_, [], none⟩ : Ret) = r
  obtain ⟨e1, he1⟩ : ∃ y_, y_ = row fI x.lost := ⟨_, rfl⟩
  rw [← he1]
  have g1 : v1 ≤ 1048576 := by rw [hv1]; exact (Sz.of1 x.lost.length).up h2
  have l1 : -1 ≤ v1 := by rw [hv1]; exact (Sz.of1 x.lost.length).lo _ h2
  unfold Known.Fits at w
  intro add sub mul arith eq ne lt le gt ge neg conv mn mx not beq len at' ln bd cut app allS isNil mks set o hP F ho
  have c1 : o 227 [R e1 (.sp 0 0), I left] = some ⟨[I v1], [], none⟩ := by rw [ho, hv1, he1]; exact ok227 fI _ _ w.2.1.1 h1 h2 rfl
  cbv
  rw [c1]; cbv
  refine both (fun d1 => ?_) (fun d1 => ?_) <;> rw [d1] <;> cbv
  · clear hP c1 ho; simp only [F.lt, decide_eq_true_eq] at d1; clear F; rw [← hr, show v1 = -1 by omega]
  exact congrArg some hr

/- laws.szKnownS -/
theorem ok96 (l : List Known) (left : Int) (w : l.length ≤ 9223372036854775807 ∧ ∀ y ∈ l, y.Fits) (h1 : 0 ≤ left) (h2 : left ≤ 1048576) {f0 : Fl} (q0 : inFl f0 = true) :
    fix Tb md 96 [R (row fKnown l) f0, I left] = some ⟨[I (szL szKnown l left)], [], none⟩ := by
  have w1 := w.1
  by_cases hl : left - l.length < 0
  · rw [show szL szKnown l left = -1 from szF_neg szKnown_Sz l _ (by unfold sz1; rw [if_pos hl])]
    refine fix_fn (fn := ir96) tb_96 rfl rfl (by decide) rfl ?_; simp only [shutArgs, shutS, List.map_cons, List.map_nil, ir96, shut_in q0, List.head?_nil, reduceCtorEq, if_false, sExt, sHello, sAnswer, sEdit, sDeal, sBox, sDialed, sKnown]
    generalize hr : (⟨_, [], none⟩ : Ret) = r
    obtain ⟨ea, hea⟩ : ∃ y_, y_ = row fKnown l := ⟨_, rfl⟩
    rw [← hea]
    intro add sub mul arith eq ne lt le gt ge neg conv mn mx not beq len at' ln bd cut app allS isNil mks set o hP F ho
    have le := F.len_at hea
    unfold At at le
    have hs : lt (sub .i64 left (len ea)) 0 = true := by rw [F.lt, F.sub, le, wrap64 (by omega) (by omega)]; simp; omega
    cbv
    rw [hs]
    cbv
    exact congrArg some hr
  · have hT : szL szKnown l left = l.foldl (fun a x => szKnown x a) (left - l.length) := by unfold szL sz1; rw [if_neg hl]
    rw [hT]
    refine fix_fn (fn := ir96) tb_96 rfl rfl (by decide) rfl ?_; simp only [shutArgs, shutS, List.map_cons, List.map_nil, ir96, shut_in q0, List.head?_nil, reduceCtorEq, if_false, sExt, sHello, sAnswer, sEdit, sDeal, sBox, sDialed, sKnown]
    obtain ⟨v, hv⟩ : ∃ y_, y_ = left - l.length := ⟨_, rfl⟩
    rw [← hv]
    have u3 : 0 ≤ v := by omega
    have u4 : v ≤ 1048576 := by omega
    have u5 : l.length ≤ 1048576 := by omega
    obtain ⟨T, hT⟩ : ∃ y_, y_ = l.foldl (fun a x => szKnown x a) v := ⟨_, rfl⟩
    rw [← hT]
    generalize hr : (⟨_, [], none⟩ : Ret) = r
    obtain ⟨ea, hea⟩ : ∃ y_, y_ = row fKnown l := ⟨_, rfl⟩
    rw [← hea]
    intro add sub mul arith eq ne lt le gt ge neg conv mn mx not beq len at' ln bd cut app allS isNil mks set o hP F ho
    have le := F.len_at hea
    have e1 : sub .i64 left (len ea) = v := by unfold At at le; rw [F.sub, le, wrap64 (by omega) (by omega), hv]
    have hs : lt v 0 = false := by rw [F.lt, hv]; simp; omega
    cbv
    rw [e1, hs]
    cbv
    refine loop_ind hP (σ := List (Known) × List (Known) × Int × Int) (fun s => [(0, R ea .sh), (1, I s.2.2.1), (4, I 0), (5, I s.2.2.2)])
      (fun s => At s.2.2.2 s.2.1.length ∧ l = s.2.1 ++ s.1 ∧ 0 ≤ s.2.2.1 ∧ s.2.2.1 ≤ 1048576 ∧ s.1.foldl (fun a x => szKnown x a) s.2.2.1 = T) (fun s => s.1.length) (l, [], v, 0) rfl ⟨rfl, rfl, u3, u4, hT.symm⟩ ?_
    rintro ⟨suf, pre, a, i⟩ ⟨hi, hl', ha0, ha1, hf⟩ ih
    simp only at hi hl' ha0 ha1 hf ih
    cbv
    cases suf with
    | nil =>
      rw [F.lt_f hi le (by simp [hl'])]; cbv
      simp only [List.foldl_nil] at hf
      rw [← hr, hf]
    | cons x suf =>
      rw [F.lt_t hi le (by simp [hl'])]; cbv
      rw [List.foldl_cons] at hf
      obtain ⟨e1, he1⟩ : ∃ y_, y_ = row fI x.lost := ⟨_, rfl⟩
      obtain ⟨ix, hix⟩ : ∃ y_, y_ = pre.length * 3 := ⟨_, rfl⟩
      rw [show at' 3 ea i = some (ix, [.int .i64 x.cls, .row () e1, .int .i64 x.tick]) by rw [hix, he1]; exact F.get hi hea hl' (fun _ => rfl) (by decide)]; cbv
      obtain ⟨a', ha'⟩ : ∃ y_, y_ = szKnown x a := ⟨_, rfl⟩
      rw [← ha'] at hf
      have u1 : a' ≤ 1048576 := by rw [ha']; exact (szKnown_Sz x).up ha1
      have u2 : -1 ≤ a' := by rw [ha']; exact (szKnown_Sz x).lo _ ha1
      have c1 : o 238 [sKnown x.cls e1 x.tick (.sp 0 1), I a] = some ⟨[I a'], [], none⟩ := by rw [ho, ha', he1]; exact ok238 x a (w.2 x (by rw [hl']; simp)) ha0 ha1 rfl
      rw [c1]; cbv
      refine both (fun c => ?_) (fun c => ?_) <;> rw [c] <;> cbv
      · simp only [F.lt, decide_eq_true_eq] at c
        rw [← hr, ← hf, szF_neg szKnown_Sz suf a' (by omega)]
      · simp only [F.lt, decide_eq_false_iff_not] at c
        refine ih (suf, pre ++ [x], a', add .i64 i 1) ⟨at_len (F.inc hi (by simp [hl'] at u5; omega)) (by simp), by simp [hl'], by simp only; omega, u1, hf⟩ (by simp)

/- laws.toIntS -/
theorem ok76 (l : List Int) (hl : l.length ≤ 1099511627776) {f0 : Fl} (h0 : inFl f0 = true) : fix Tb md 76 [R (row fI l) f0] = some ⟨[R (row fI l) (.ow false)], [], none⟩ := by
  refine fix_fn (fn := ir76) tb_76 rfl rfl (by decide) rfl ?_; simp only [shutArgs, shutS, List.map_cons, List.map_nil, ir76, shut_in h0, List.head?_nil, reduceCtorEq, if_false, sExt, sHello, sAnswer, sEdit, sDeal, sBox, sDialed, sKnown]
  generalize hr : (⟨_, [], none⟩ : Ret) = r
  obtain ⟨e1, he1⟩ : ∃ y_, y_ = row fI l := ⟨_, rfl⟩
  rw [← he1] at hr ⊢
  intro add sub mul arith eq ne lt le gt ge neg conv mn mx not beq len at' ln bd cut app allS isNil mks set o hP F ho
  have la := F.len_at he1
  cbv
  obtain ⟨e2, he2⟩ : ∃ y_, y_ = row fI (List.replicate l.length 0) := ⟨_, rfl⟩
  rw [show mks [.int .i64 0] (len e1) (len e1) = some e2 by rw [F.mks, show len e1 = _ from la, he2]; exact row_mk (f := fI) (a := 0) rfl (by simp [fI]) hl]; cbv
  refine loop_ind hP (σ := List Int × List Int × List (List V) × Int) (fun s => [(0, R e1 .sh), (2, R [] .nl), (3, R s.2.2.1 (.ow false)), (4, I s.2.2.2)])
    (fun s => At s.2.2.2 s.2.1.length ∧ l = s.2.1 ++ s.1 ∧ s.2.2.1 = row fI (s.2.1 ++ List.replicate s.1.length 0)) (fun s => s.1.length) (l, [], e2, 0) rfl ⟨rfl, rfl, by simpa using he2⟩ ?_
  rintro ⟨suf, pre, eo, i⟩ ⟨hi, hl', heo⟩ ih
  simp only at hi hl' heo ih
  cbv
  cases suf with
  | nil =>
    rw [F.lt_f hi la (by simp [hl'])]; cbv
    rw [← hr, heo, he1, hl']; simp
  | cons x suf =>
    rw [F.lt_t hi la (by simp [hl'])]; cbv
    obtain ⟨ix, hix⟩ : ∃ y_, y_ = pre.length * 1 := ⟨_, rfl⟩
    rw [show at' 1 e1 i = some (ix, [.int .i64 x]) by rw [hix]; exact F.get hi he1 hl' (fun _ => rfl) (by decide)]; cbv
    rw [show at' 1 eo i = some (ix, [.int .i64 0]) by rw [hix]; exact F.get hi heo rfl (fun _ => rfl) (by decide)]; cbv
    obtain ⟨eo', heo'⟩ : ∃ y_, y_ = row fI (pre ++ x :: List.replicate suf.length 0) := ⟨_, rfl⟩
    rw [show set eo ix [.int .i64 x] = some eo' by rw [F.set, heo, hix, heo']; exact set_one (fun _ => rfl) rfl]; cbv
    refine ih (suf, pre ++ [x], eo', add .i64 i 1) ⟨at_len (F.inc hi (by simp [hl'] at hl; omega)) (by simp), by simp [hl'], by simp [heo']⟩ (by simp)

/- laws.toKnown -/
theorem ok239 (x : Known) (w : x.Mid) {f0 : Fl} (q0 : inFl f0 = true) :
    fix Tb md 239 [sKnown x.cls (row fI x.lost) x.tick f0] = some ⟨[sKnown x.cls (row fI x.lost) x.tick (.ow false)], [], none⟩ := by
  refine fix_fn (fn := ir239) tb_239 rfl rfl (by decide) rfl ?_; simp only [shutArgs, shutS, List.map_cons, List.map_nil, ir239, shut_in q0, List.head?_nil, reduceCtorEq, if_false, sExt, sHello, sAnswer, sEdit, sDeal, sBox, sDialed, sKnown]
  generalize hr : (⟨_, [], none⟩ : Ret) = r
  obtain ⟨e1, he1⟩ : ∃ y_, y_ = row fI x.lost := ⟨_, rfl⟩
  rw [← he1] at hr ⊢
  unfold Known.Mid at w
  intro add sub mul arith eq ne lt le gt ge neg conv mn mx not beq len at' ln bd cut app allS isNil mks set o hP F ho
  have c1 : o 76 [R e1 (.sp 0 0)] = some ⟨[R e1 (.ow false)], [], none⟩ := by rw [ho, he1]; exact ok76 _ (by have := w; omega) rfl
  cbv
  rw [c1]; cbv
  exact congrArg some hr

/- laws.toKnownS -/
theorem ok98 (l : List (Known)) (w : l.length ≤ 1073741824 ∧ ∀ y ∈ l, y.Mid) {f0 : Fl} (q0 : inFl f0 = true) :
    fix Tb md 98 [R (row fKnown l) f0] = some ⟨[R (row fKnown l) (.ow false)], [], none⟩ := by
  have w1 := w.1
  refine fix_fn (fn := ir98) tb_98 rfl rfl (by decide) rfl ?_; simp only [shutArgs, shutS, List.map_cons, List.map_nil, ir98, shut_in q0, List.head?_nil, reduceCtorEq, if_false, sExt, sHello, sAnswer, sEdit, sDeal, sBox, sDialed, sKnown]
  generalize hr : (⟨_, [], none⟩ : Ret) = r
  obtain ⟨ea, hea⟩ : ∃ y_, y_ = row fKnown l := ⟨_, rfl⟩
  rw [← hea] at hr ⊢
  intro add sub mul arith eq ne lt le gt ge neg conv mn mx not beq len at' ln bd cut app allS isNil mks set o hP F ho
  have la := F.len_at hea
  cbv
  obtain ⟨e0, he0⟩ : ∃ y_, y_ = row fKnown (List.replicate l.length (⟨0, [], 0⟩ : Known)) := ⟨_, rfl⟩
  rw [show mks [.int .i64 0, .row () [], .int .i64 0] (len ea) (len ea) = some e0 by rw [F.mks, show len ea = _ from la, he0]; exact row_mk (f := fKnown) (a := (⟨0, [], 0⟩ : Known)) rfl (by simp [fKnown]) (show l.length ≤ 1099511627776 by omega)]; cbv
  refine loop_ind hP (σ := List (Known) × List (Known) × List (List V) × Int) (fun s => [(0, R ea .sh), (2, R [] .nl), (3, R s.2.2.1 (.ow false)), (4, I s.2.2.2)])
    (fun s => At s.2.2.2 s.2.1.length ∧ l = s.2.1 ++ s.1 ∧ s.2.2.1 = row fKnown (s.2.1 ++ List.replicate s.1.length (⟨0, [], 0⟩ : Known))) (fun s => s.1.length) (l, [], e0, 0) rfl ⟨rfl, rfl, by simpa using he0⟩ ?_
  rintro ⟨suf, pre, eo, i⟩ ⟨hi, hl', heo⟩ ih
  simp only at hi hl' heo ih
  cbv
  cases suf with
  | nil =>
    rw [F.lt_f hi la (by simp [hl'])]; cbv
    rw [← hr, heo, hea, hl']; simp
  | cons x suf =>
    rw [F.lt_t hi la (by simp [hl'])]; cbv
    obtain ⟨e1, he1⟩ : ∃ y_, y_ = row fI x.lost := ⟨_, rfl⟩
    obtain ⟨ix, hix⟩ : ∃ y_, y_ = pre.length * 3 := ⟨_, rfl⟩
    rw [show at' 3 ea i = some (ix, [.int .i64 x.cls, .row () e1, .int .i64 x.tick]) by rw [hix, he1]; exact F.get hi hea hl' (fun _ => rfl) (by decide)]; cbv
    have c1 : o 239 [sKnown x.cls e1 x.tick (.sp 0 1)] = some ⟨[sKnown x.cls e1 x.tick (.ow false)], [], none⟩ := by rw [ho, he1]; exact ok239 x (w.2 x (by rw [hl']; simp)) rfl
    rw [c1]; cbv
    rw [show at' 3 eo i = some (ix, [.int .i64 0, .row () [], .int .i64 0]) by rw [hix]; exact F.get hi heo rfl (fun _ => rfl) (by decide)]; cbv
    obtain ⟨eo', heo'⟩ : ∃ y_, y_ = row fKnown (pre ++ x :: List.replicate suf.length (⟨0, [], 0⟩ : Known)) := ⟨_, rfl⟩
    rw [show set eo ix [.int .i64 x.cls, .row () e1, .int .i64 x.tick] = some eo' by rw [F.set, heo, hix, heo', he1]; exact set_all (fun _ => rfl) rfl]; cbv
    refine ih (suf, pre ++ [x], eo', add .i64 i 1) ⟨at_len (F.inc hi (by simp [hl'] at w1; omega)) (by simp), by simp [hl'], by simp [heo']⟩ (by simp)

/- laws.FnExactCountStates -/
theorem law14 (l : List Known) (wl : l.length ≤ 9223372036854775807 ∧ ∀ y ∈ l, y.Fits) :
    fix Tb md 14 [R (row fKnown l) (.sp 0 0)] = some ⟨[B true], [], none⟩ := by
  refine fix_fn (fn := ir14) tb_14 rfl rfl (by decide) rfl ?_; simp only [shutArgs, shutS, List.map_cons, List.map_nil, ir14, List.head?_nil, reduceCtorEq, if_false, sExt, sHello, sAnswer, sEdit, sDeal, sBox, sDialed, sKnown, shut_in (f := .sp 0 0) rfl]
  generalize hr : (⟨_, [], none⟩ : Ret) = r
  obtain ⟨e1, he1⟩ : ∃ y_, y_ = row fKnown l := ⟨_, rfl⟩
  rw [← he1]
  obtain ⟨v1, hv1⟩ : ∃ y_, y_ = szL szKnown l 1048576 := ⟨_, rfl⟩
  have u1 : v1 ≤ 1048576 := by rw [hv1]; exact (Sz.list szKnown_Sz l).up (by decide)
  have s1 := fun q : 0 ≤ v1 => (Sz.list szKnown_Sz l).ok 1048576 (by decide) (hv1 ▸ q)
  obtain ⟨w, hw⟩ : ∃ y_, y_ = cntGo [] l := ⟨_, rfl⟩
  intro add sub mul arith eq ne lt le gt ge neg conv mn mx not beq len at' ln bd cut app allS isNil mks set o hP F ho
  have b1 : o 96 [R e1 (.sp 0 0), I 1048576] = some ⟨[I v1], [], none⟩ := by rw [ho, hv1, he1]; exact ok96 l _ wl (by decide) (by decide) rfl 
  cbv
  rw [b1]; cbv
  refine both (fun d1 => ?_) (fun d1 => ?_) <;> rw [d1] <;> cbv
  · exact congrArg some hr
  have p1 : 0 ≤ v1 := by simp only [F.lt, decide_eq_false_iff_not] at d1; omega
  have tl := s1 p1
  have tlm : l.length ≤ 1073741824 ∧ ∀ y ∈ l, y.Mid := ⟨Nat.le_trans tl.1 (by decide), fun y hy => (tl.2 y hy).mid⟩
  have rl := tl
  have kl : o 98 [R e1 (.sp 0 0)] = some ⟨[R e1 (.ow false)], [], none⟩ := by rw [ho, he1]; exact ok98 l tlm rfl 
  have ql : o 100 [R e1 (.sp 0 0), R e1 (.sp 1 0)] = some ⟨[B true], [], none⟩ := by rw [ho, he1]; exact ok100 l tlm rfl  rfl 
  have m1 : o 106 [R e1 (.sp 0 0)] = some ⟨[I w], [], none⟩ := by rw [ho, hw, he1]; exact ok106 _ tl rfl
  have m2 : o 107 [R e1 (.sp 0 0)] = some ⟨[I w], [], none⟩ := by rw [ho, hw, he1]; exact ok107 _ tl rfl
  repeat' (first | (rw [kl]; cbv) | (rw [ql]; cbv) | (rw [m1]; cbv) | (rw [m2]; cbv) | (rw [F.ne_f rfl]; cbv) | (rw [show not (beq w w) = false by rw [F.not, F.beq]; simp]; cbv) | (rw [show not true = false by rw [F.not]; rfl]; cbv) | exact congrArg some hr)
theorem ans14 : Answers Tb md 14 [(false, [.row [.int .i64, .row [.int .i64], .int .i64]])] := answers_of (by
  intro vs h
  obtain ⟨_, _, rfl, h1, h⟩ := fitL_cons h
  cases fitL_nil h
  obtain ⟨l, rfl, wl⟩ := fit_row (fun _ => fitL_Known) h1
  exact law14 l wl)

end Go.Vm
