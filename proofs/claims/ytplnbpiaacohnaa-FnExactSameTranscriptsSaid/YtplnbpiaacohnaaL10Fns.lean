/- What the functions answer. -/
import Derived.Test.YtplnbpiaacohnaaL10Tab
set_option maxHeartbeats 4000000
set_option linter.unusedVariables false
set_option linter.unusedSimpArgs false
namespace Go.Vm

/- laws.szIntS -/
theorem ok227 {α : Type} (f : α → List V) (l : List α) (left : Int) (h : l.length ≤ 9223372036854775807) (h1 : 0 ≤ left) (h2 : left ≤ 1048576) {f0 : Fl} (h0 : inFl f0 = true) : fix Tb md 227 [R (row f l) f0, I left] = some ⟨[I (sz1 l.length left)], [], none⟩ := by
  by_cases hl : left - l.length < 0
  · rw [show sz1 l.length left = -1 by unfold sz1; rw [if_pos hl]]
    refine fix_fn (fn := ir227) tb_227 rfl rfl (by decide) rfl ?_; simp only [shutArgs, shutS, List.map_cons, List.map_nil, ir227, shut_in h0, List.head?_nil, reduceCtorEq, if_false, sExt, sHello, sAnswer, sEdit, sDeal, sBox, sDialed, sKnown]
    generalize hr : (⟨_, [], none⟩ : Ret) = r
    obtain ⟨ea, hea⟩ : ∃ y_, y_ = row f l := ⟨_, rfl⟩
    rw [← hea]
    intro add sub mul arith eq ne lt le gt ge neg conv mn mx not beq len at' ln bd cut app allS isNil mks set o hP F ho
    have le := F.len_at hea
    unfold At at le
    have hs : lt (sub .i64 left (len ea)) 0 = true := by rw [F.lt, F.sub, le, wrap64 (by omega) (by omega)]; simp; omega
    cbv
    rw [hs]
    cbv
    exact congrArg some hr
  · rw [show sz1 l.length left = left - l.length by unfold sz1; rw [if_neg hl]]
    refine fix_fn (fn := ir227) tb_227 rfl rfl (by decide) rfl ?_; simp only [shutArgs, shutS, List.map_cons, List.map_nil, ir227, shut_in h0, List.head?_nil, reduceCtorEq, if_false, sExt, sHello, sAnswer, sEdit, sDeal, sBox, sDialed, sKnown]
    obtain ⟨v, hv⟩ : ∃ y_, y_ = left - l.length := ⟨_, rfl⟩
    rw [← hv]
    generalize hr : (⟨_, [], none⟩ : Ret) = r
    obtain ⟨ea, hea⟩ : ∃ y_, y_ = row f l := ⟨_, rfl⟩
    rw [← hea]
    intro add sub mul arith eq ne lt le gt ge neg conv mn mx not beq len at' ln bd cut app allS isNil mks set o hP F ho
    have le := F.len_at hea
    unfold At at le
    have e1 : sub .i64 left (len ea) = v := by rw [F.sub, le, wrap64 (by omega) (by omega), hv]
    have hs : lt v 0 = false := by rw [F.lt, hv]; simp; omega
    cbv
    rw [e1, hs]
    cbv
    exact congrArg some hr

/- laws.szIntSS -/
theorem ok70 (l : List (List Int)) (left : Int) (w : l.length ≤ 9223372036854775807 ∧ ∀ y ∈ l, (y.length ≤ 9223372036854775807 ∧ ∀ n ∈ y, Int64 n)) (h1 : 0 ≤ left) (h2 : left ≤ 1048576) {f0 : Fl} (q0 : inFl f0 = true) :
    fix Tb md 70 [R (row fR l) f0, I left] = some ⟨[I (szL szR l left)], [], none⟩ := by
  have w1 := w.1
  by_cases hl : left - l.length < 0
  · rw [show szL szR l left = -1 from szF_neg szR_Sz l _ (by unfold sz1; rw [if_pos hl])]
    refine fix_fn (fn := ir70) tb_70 rfl rfl (by decide) rfl ?_; simp only [shutArgs, shutS, List.map_cons, List.map_nil, ir70, shut_in q0, List.head?_nil, reduceCtorEq, if_false, sExt, sHello, sAnswer, sEdit, sDeal, sBox, sDialed, sKnown]
    generalize hr : (⟨_, [], none⟩ : Ret) = r
    obtain ⟨ea, hea⟩ : ∃ y_, y_ = row fR l := ⟨_, rfl⟩
    rw [← hea]
    intro add sub mul arith eq ne lt le gt ge neg conv mn mx not beq len at' ln bd cut app allS isNil mks set o hP F ho
    have le := F.len_at hea
    unfold At at le
    have hs : lt (sub .i64 left (len ea)) 0 = true := by rw [F.lt, F.sub, le, wrap64 (by omega) (by omega)]; simp; omega
    cbv
    rw [hs]
    cbv
    exact congrArg some hr
  · have hT : szL szR l left = l.foldl (fun a x => szR x a) (left - l.length) := by unfold szL sz1; rw [if_neg hl]
    rw [hT]
    refine fix_fn (fn := ir70) tb_70 rfl rfl (by decide) rfl ?_; simp only [shutArgs, shutS, List.map_cons, List.map_nil, ir70, shut_in q0, List.head?_nil, reduceCtorEq, if_false, sExt, sHello, sAnswer, sEdit, sDeal, sBox, sDialed, sKnown]
    obtain ⟨v, hv⟩ : ∃ y_, y_ = left - l.length := ⟨_, rfl⟩
    rw [← hv]
    have u3 : 0 ≤ v := by omega
    have u4 : v ≤ 1048576 := by omega
    have u5 : l.length ≤ 1048576 := by omega
    obtain ⟨T, hT⟩ : ∃ y_, y_ = l.foldl (fun a x => szR x a) v := ⟨_, rfl⟩
    rw [← hT]
    generalize hr : (⟨_, [], none⟩ : Ret) = r
    obtain ⟨ea, hea⟩ : ∃ y_, y_ = row fR l := ⟨_, rfl⟩
    rw [← hea]
    intro add sub mul arith eq ne lt le gt ge neg conv mn mx not beq len at' ln bd cut app allS isNil mks set o hP F ho
    have le := F.len_at hea
    have e1 : sub .i64 left (len ea) = v := by unfold At at le; rw [F.sub, le, wrap64 (by omega) (by omega), hv]
    have hs : lt v 0 = false := by rw [F.lt, hv]; simp; omega
    cbv
    rw [e1, hs]
    cbv
    refine loop_ind hP (σ := List (List Int) × List (List Int) × Int × Int) (fun s => [(0, R ea .sh), (1, I s.2.2.1), (4, I 0), (5, I s.2.2.2)])
      (fun s => At s.2.2.2 s.2.1.length ∧ l = s.2.1 ++ s.1 ∧ 0 ≤ s.2.2.1 ∧ s.2.2.1 ≤ 1048576 ∧ s.1.foldl (fun a x => szR x a) s.2.2.1 = T) (fun s => s.1.length) (l, [], v, 0) rfl ⟨rfl, rfl, u3, u4, hT.symm⟩ ?_
    rintro ⟨suf, pre, a, i⟩ ⟨hi, hl', ha0, ha1, hf⟩ ih
    simp only at hi hl' ha0 ha1 hf ih
    cbv
    cases suf with
    | nil =>
      rw [F.lt_f hi le (by simp [hl'])]; cbv
      simp only [List.foldl_nil] at hf
      rw [← hr, hf]
    | cons x suf =>
      rw [F.lt_t hi le (by simp [hl'])]; cbv
      rw [List.foldl_cons] at hf
      obtain ⟨e1, he1⟩ : ∃ y_, y_ = row fI x := ⟨_, rfl⟩
      obtain ⟨ix, hix⟩ : ∃ y_, y_ = pre.length * 1 := ⟨_, rfl⟩
      rw [show at' 1 ea i = some (ix, [.row () e1]) by rw [hix, he1]; exact F.get hi hea hl' (fun _ => rfl) (by decide)]; cbv
      obtain ⟨a', ha'⟩ : ∃ y_, y_ = szR x a := ⟨_, rfl⟩
      rw [← ha'] at hf
      have u1 : a' ≤ 1048576 := by rw [ha']; exact (szR_Sz x).up ha1
      have u2 : -1 ≤ a' := by rw [ha']; exact (szR_Sz x).lo _ ha1
      have c1 : o 227 [R e1 (.sp 0 0), I a] = some ⟨[I a'], [], none⟩ := by rw [ho, ha', he1]; exact ok227 fI x a (w.2 x (by rw [hl']; simp)).1 ha0 ha1 rfl
      rw [c1]; cbv
      refine both (fun c => ?_) (fun c => ?_) <;> rw [c] <;> cbv
      · simp only [F.lt, decide_eq_true_eq] at c
        rw [← hr, ← hf, szF_neg szR_Sz suf a' (by omega)]
      · simp only [F.lt, decide_eq_false_iff_not] at c
        refine ih (suf, pre ++ [x], a', add .i64 i 1) ⟨at_len (F.inc hi (by simp [hl'] at u5; omega)) (by simp), by simp [hl'], by simp only; omega, u1, hf⟩ (by simp)

/- laws.toIntS -/
theorem ok76 (l : List Int) (hl : l.length ≤ 1099511627776) {f0 : Fl} (h0 : inFl f0 = true) : fix Tb md 76 [R (row fI l) f0] = some ⟨[R (row fI l) (.ow false)], [], none⟩ := by
  refine fix_fn (fn := ir76) tb_76 rfl rfl (by decide) rfl ?_; simp only [shutArgs, shutS, List.map_cons, List.map_nil, ir76, shut_in h0, List.head?_nil, reduceCtorEq, if_false, sExt, sHello, sAnswer, sEdit, sDeal, sBox, sDialed, sKnown]
  generalize hr : (⟨_, [], none⟩ : Ret) = r
  obtain ⟨e1, he1⟩ : ∃ y_, y_ = row fI l := ⟨_, rfl⟩
  rw [← he1] at hr ⊢
  intro add sub mul arith eq ne lt le gt ge neg conv mn mx not beq len at' ln bd cut app allS isNil mks set o hP F ho
  have la := F.len_at he1
  cbv
  obtain ⟨e2, he2⟩ : ∃ y_, y_ = row fI (List.replicate l.length 0) := ⟨_, rfl⟩
  rw [show mks [.int .i64 0] (len e1) (len e1) = some e2 by rw [F.mks, show len e1 = _ from la, he2]; exact row_mk (f := fI) (a := 0) rfl (by simp [fI]) hl]; cbv
  refine loop_ind hP (σ := List Int × List Int × List (List V) × Int) (fun s => [(0, R e1 .sh), (2, R [] .nl), (3, R s.2.2.1 (.ow false)), (4, I s.2.2.2)])
    (fun s => At s.2.2.2 s.2.1.length ∧ l = s.2.1 ++ s.1 ∧ s.2.2.1 = row fI (s.2.1 ++ List.replicate s.1.length 0)) (fun s => s.1.length) (l, [], e2, 0) rfl ⟨rfl, rfl, by simpa using he2⟩ ?_
  rintro ⟨suf, pre, eo, i⟩ ⟨hi, hl', heo⟩ ih
  simp only at hi hl' heo ih
  cbv
  cases suf with
  | nil =>
    rw [F.lt_f hi la (by simp [hl'])]; cbv
    rw [← hr, heo, he1, hl']; simp
  | cons x suf =>
    rw [F.lt_t hi la (by simp [hl'])]; cbv
    obtain ⟨ix, hix⟩ : ∃ y_, y_ = pre.length * 1 := ⟨_, rfl⟩
    rw [show at' 1 e1 i = some (ix, [.int .i64 x]) by rw [hix]; exact F.get hi he1 hl' (fun _ => rfl) (by decide)]; cbv
    rw [show at' 1 eo i = some (ix, [.int .i64 0]) by rw [hix]; exact F.get hi heo rfl (fun _ => rfl) (by decide)]; cbv
    obtain ⟨eo', heo'⟩ : ∃ y_, y_ = row fI (pre ++ x :: List.replicate suf.length 0) := ⟨_, rfl⟩
    rw [show set eo ix [.int .i64 x] = some eo' by rw [F.set, heo, hix, heo']; exact set_one (fun _ => rfl) rfl]; cbv
    refine ih (suf, pre ++ [x], eo', add .i64 i 1) ⟨at_len (F.inc hi (by simp [hl'] at hl; omega)) (by simp), by simp [hl'], by simp [heo']⟩ (by simp)

/- laws.toIntSS -/
theorem ok72 (l : List (List Int)) (w : l.length ≤ 1073741824 ∧ ∀ y ∈ l, y.length ≤ 1073741824) {f0 : Fl} (q0 : inFl f0 = true) :
    fix Tb md 72 [R (row fR l) f0] = some ⟨[R (row fR l) (.ow false)], [], none⟩ := by
  have w1 := w.1
  refine fix_fn (fn := ir72) tb_72 rfl rfl (by decide) rfl ?_; simp only [shutArgs, shutS, List.map_cons, List.map_nil, ir72, shut_in q0, List.head?_nil, reduceCtorEq, if_false, sExt, sHello, sAnswer, sEdit, sDeal, sBox, sDialed, sKnown]
  generalize hr : (⟨_, [], none⟩ : Ret) = r
  obtain ⟨ea, hea⟩ : ∃ y_, y_ = row fR l := ⟨_, rfl⟩
  rw [← hea] at hr ⊢
  intro add sub mul arith eq ne lt le gt ge neg conv mn mx not beq len at' ln bd cut app allS isNil mks set o hP F ho
  have la := F.len_at hea
  cbv
  obtain ⟨e0, he0⟩ : ∃ y_, y_ = row fR (List.replicate l.length ([] : List Int)) := ⟨_, rfl⟩
  rw [show mks [.row () []] (len ea) (len ea) = some e0 by rw [F.mks, show len ea = _ from la, he0]; exact row_mk (f := fR) (a := ([] : List Int)) rfl (by simp [fR]) (show l.length ≤ 1099511627776 by omega)]; cbv
  refine loop_ind hP (σ := List (List Int) × List (List Int) × List (List V) × Int) (fun s => [(0, R ea .sh), (2, R [] .nl), (3, R s.2.2.1 (.ow false)), (4, I s.2.2.2)])
    (fun s => At s.2.2.2 s.2.1.length ∧ l = s.2.1 ++ s.1 ∧ s.2.2.1 = row fR (s.2.1 ++ List.replicate s.1.length ([] : List Int))) (fun s => s.1.length) (l, [], e0, 0) rfl ⟨rfl, rfl, by simpa using he0⟩ ?_
  rintro ⟨suf, pre, eo, i⟩ ⟨hi, hl', heo⟩ ih
  simp only at hi hl' heo ih
  cbv
  cases suf with
  | nil =>
    rw [F.lt_f hi la (by simp [hl'])]; cbv
    rw [← hr, heo, hea, hl']; simp
  | cons x suf =>
    rw [F.lt_t hi la (by simp [hl'])]; cbv
    obtain ⟨e1, he1⟩ : ∃ y_, y_ = row fI x := ⟨_, rfl⟩
    obtain ⟨ix, hix⟩ : ∃ y_, y_ = pre.length * 1 := ⟨_, rfl⟩
    rw [show at' 1 ea i = some (ix, [.row () e1]) by rw [hix, he1]; exact F.get hi hea hl' (fun _ => rfl) (by decide)]; cbv
    have c1 : o 76 [R e1 (.sp 0 0)] = some ⟨[R e1 (.ow false)], [], none⟩ := by rw [ho, he1]; exact ok76 x (by have := w.2 x (by rw [hl']; simp); omega) rfl
    rw [c1]; cbv
    rw [show at' 1 eo i = some (ix, [.row () []]) by rw [hix]; exact F.get hi heo rfl (fun _ => rfl) (by decide)]; cbv
    obtain ⟨eo', heo'⟩ : ∃ y_, y_ = row fR (pre ++ x :: List.replicate suf.length ([] : List Int)) := ⟨_, rfl⟩
    rw [show set eo ix [.row () e1] = some eo' by rw [F.set, heo, hix, heo', he1]; exact set_all (fun _ => rfl) rfl]; cbv
    refine ih (suf, pre ++ [x], eo', add .i64 i 1) ⟨at_len (F.inc hi (by simp [hl'] at w1; omega)) (by simp), by simp [hl'], by simp [heo']⟩ (by simp)

/- laws.eqIntS -/
theorem ok79 (a b : List Int) (hl : a.length ≤ 1099511627776) {f0 f1 : Fl} (h0 : inFl f0 = true) (h1 : inFl f1 = true) : fix Tb md 79 [R (row fI a) f0, R (row fI b) f1] = some ⟨[B (decide (a = b))], [], none⟩ := by
  refine fix_fn (fn := ir79) tb_79 rfl rfl (by decide) rfl ?_; simp only [shutArgs, shutS, List.map_cons, List.map_nil, ir79, shut_in h0, shut_in h1, List.head?_nil, reduceCtorEq, if_false, sExt, sHello, sAnswer, sEdit, sDeal, sBox, sDialed, sKnown]
  generalize hr : (⟨_, [], none⟩ : Ret) = r
  obtain ⟨ea, hea⟩ : ∃ y_, y_ = row fI a := ⟨_, rfl⟩
  obtain ⟨eb, heb⟩ : ∃ y_, y_ = row fI b := ⟨_, rfl⟩
  rw [← hea, ← heb]
  intro add sub mul arith eq ne lt le gt ge neg conv mn mx not beq len at' ln bd cut app allS isNil mks set o hP F ho
  have la := F.len_at hea
  have lb := F.len_at heb
  cbv
  by_cases hab : a.length = b.length
  · rw [F.ne_f (by unfold At at la lb; omega)]; cbv
    refine loop_ind hP (σ := List Int × List Int × List Int × Int) (fun s => [(0, R ea .sh), (1, R eb .sh), (4, B false), (5, I s.2.2.2)]) (fun s => At s.2.2.2 s.1.length ∧ a = s.1 ++ s.2.1 ∧ b = s.1 ++ s.2.2.1) (fun s => s.2.1.length) ([], a, b, 0) rfl ⟨rfl, rfl, rfl⟩ ?_
    rintro ⟨pre, sa, sb, i⟩ ⟨hi, ha, hb⟩ ih
    simp only at hi ha hb ih
    cbv
    have hlen : sa.length = sb.length := by simp [ha, hb] at hab; exact hab
    match sa, sb, hlen, ha, hb with
    | [], [], _, ha, hb =>
      rw [F.lt_f hi la (by simp [ha])]; cbv
      rw [← hr]; simp [ha, hb]
    | x :: sa, y :: sb, _, ha, hb =>
      rw [F.lt_t hi la (by simp [ha])]; cbv
      obtain ⟨ix, hix⟩ : ∃ y_, y_ = pre.length * 1 := ⟨_, rfl⟩
      rw [show at' 1 ea i = some (ix, [.int .i64 x]) by rw [hix]; exact F.get hi hea ha (fun _ => rfl) (by decide)]; cbv
      rw [show at' 1 eb i = some (ix, [.int .i64 y]) by rw [hix]; exact F.get hi heb hb (fun _ => rfl) (by decide)]; cbv
      by_cases hxy : x = y
      · rw [F.ne_f hxy]; cbv
        refine ih (pre ++ [x], sa, sb, add .i64 i 1) ⟨at_len (F.inc hi (by simp [ha] at hl; omega)) (by simp), by simp [ha], by simp [hb, hxy]⟩ (by simp)
      · rw [F.ne_t hxy]; cbv
        rw [← hr]; simp [ha, hb, hxy]
  · rw [F.ne_t (by unfold At at la lb; omega)]; cbv
    rw [← hr]
    simp
    intro e; exact hab (by rw [e])
theorem ok79t (a : List Int) (hl : a.length ≤ 1099511627776) {f0 f1 : Fl} (h0 : inFl f0 = true) (h1 : inFl f1 = true) : fix Tb md 79 [R (row fI a) f0, R (row fI a) f1] = some ⟨[B true], [], none⟩ := by simpa using ok79 a a hl h0 h1

/- laws.eqIntSS -/
theorem ok74 (l : List (List Int)) (w : l.length ≤ 1073741824 ∧ ∀ y ∈ l, y.length ≤ 1073741824) {f0 f1 : Fl} (q0 : inFl f0 = true) (q1 : inFl f1 = true) :
    fix Tb md 74 [R (row fR l) f0, R (row fR l) f1] = some ⟨[B true], [], none⟩ := by
  have w1 := w.1
  refine fix_fn (fn := ir74) tb_74 rfl rfl (by decide) rfl ?_; simp only [shutArgs, shutS, List.map_cons, List.map_nil, ir74, shut_in q0, shut_in q1, List.head?_nil, reduceCtorEq, if_false, sExt, sHello, sAnswer, sEdit, sDeal, sBox, sDialed, sKnown]
  generalize hr : (⟨_, [], none⟩ : Ret) = r
  obtain ⟨ea, hea⟩ : ∃ y_, y_ = row fR l := ⟨_, rfl⟩
  rw [← hea]
  intro add sub mul arith eq ne lt le gt ge neg conv mn mx not beq len at' ln bd cut app allS isNil mks set o hP F ho
  have la := F.len_at hea
  cbv
  rw [F.ne_f rfl]; cbv
  refine loop_ind hP (σ := List (List Int) × List (List Int) × Int) (fun s => [(0, R ea .sh), (1, R ea .sh), (4, B false), (5, I s.2.2)])
    (fun s => At s.2.2 s.2.1.length ∧ l = s.2.1 ++ s.1) (fun s => s.1.length) (l, [], 0) rfl ⟨rfl, rfl⟩ ?_
  rintro ⟨suf, pre, i⟩ ⟨hi, hl'⟩ ih
  simp only at hi hl' ih
  cbv
  cases suf with
  | nil =>
    rw [F.lt_f hi la (by simp [hl'])]; cbv
    exact congrArg some hr
  | cons x suf =>
    rw [F.lt_t hi la (by simp [hl'])]; cbv
    obtain ⟨e1, he1⟩ : ∃ y_, y_ = row fI x := ⟨_, rfl⟩
    obtain ⟨ix, hix⟩ : ∃ y_, y_ = pre.length * 1 := ⟨_, rfl⟩
    have a1 : at' 1 ea i = some (ix, [.row () e1]) := by rw [hix, he1]; exact F.get hi hea hl' (fun _ => rfl) (by decide)
    rw [a1]; cbv
    try (rw [a1]; cbv)
    have c1 : o 79 [R e1 (.sp 0 0), R e1 (.sp 1 0)] = some ⟨[B true], [], none⟩ := by rw [ho, he1]; exact ok79t x (by have := w.2 x (by rw [hl']; simp); omega) rfl rfl
    rw [c1]; cbv
    rw [show not true = false by rw [F.not]; rfl]; cbv
    refine ih (suf, pre ++ [x], add .i64 i 1) ⟨at_len (F.inc hi (by simp [hl'] at w1; omega)) (by simp), by simp [hl']⟩ (by simp)

/- spec.EqualInts -/
theorem ok228 (a b : List Int) (hl : a.length ≤ 1099511627776) {f0 f1 : Fl} (h0 : inFl f0 = true) (h1 : inFl f1 = true) : fix Tb md 228 [R (row fI a) f0, R (row fI b) f1] = some ⟨[B (decide (a = b))], [], none⟩ := by
  refine fix_fn (fn := ir228) tb_228 rfl rfl (by decide) rfl ?_; simp only [shutArgs, shutS, List.map_cons, List.map_nil, ir228, shut_in h0, shut_in h1, List.head?_nil, reduceCtorEq, if_false, sExt, sHello, sAnswer, sEdit, sDeal, sBox, sDialed, sKnown]
  generalize hr : (⟨_, [], none⟩ : Ret) = r
  obtain ⟨ea, hea⟩ : ∃ y_, y_ = row fI a := ⟨_, rfl⟩
  obtain ⟨eb, heb⟩ : ∃ y_, y_ = row fI b := ⟨_, rfl⟩
  rw [← hea, ← heb]
  intro add sub mul arith eq ne lt le gt ge neg conv mn mx not beq len at' ln bd cut app allS isNil mks set o hP F ho
  have la := F.len_at hea
  have lb := F.len_at heb
  cbv
  by_cases hab : a.length = b.length
  · rw [F.ne_f (by unfold At at la lb; omega)]; cbv
    refine loop_ind hP (σ := List Int × List Int × List Int × Int) (fun s => [(0, R ea .sh), (1, R eb .sh), (4, B false), (5, I s.2.2.2)]) (fun s => At s.2.2.2 s.1.length ∧ a = s.1 ++ s.2.1 ∧ b = s.1 ++ s.2.2.1) (fun s => s.2.1.length) ([], a, b, 0) rfl ⟨rfl, rfl, rfl⟩ ?_
    rintro ⟨pre, sa, sb, i⟩ ⟨hi, ha, hb⟩ ih
    simp only at hi ha hb ih
    cbv
    have hlen : sa.length = sb.length := by simp [ha, hb] at hab; exact hab
    match sa, sb, hlen, ha, hb with
    | [], [], _, ha, hb =>
      rw [F.lt_f hi la (by simp [ha])]; cbv
      rw [← hr]; simp [ha, hb]
    | x :: sa, y :: sb, _, ha, hb =>
      rw [F.lt_t hi la (by simp [ha])]; cbv
      obtain ⟨ix, hix⟩ : ∃ y_, y_ = pre.length * 1 := ⟨_, rfl⟩
      rw [show at' 1 ea i = some (ix, [.int .i64 x]) by rw [hix]; exact F.get hi hea ha (fun _ => rfl) (by decide)]; cbv
      rw [show at' 1 eb i = some (ix, [.int .i64 y]) by rw [hix]; exact F.get hi heb hb (fun _ => rfl) (by decide)]; cbv
      by_cases hxy : x = y
      · rw [F.ne_f hxy]; cbv
        refine ih (pre ++ [x], sa, sb, add .i64 i 1) ⟨at_len (F.inc hi (by simp [ha] at hl; omega)) (by simp), by simp [ha], by simp [hb, hxy]⟩ (by simp)
      · rw [F.ne_t hxy]; cbv
        rw [← hr]; simp [ha, hb, hxy]
  · rw [F.ne_t (by unfold At at la lb; omega)]; cbv
    rw [← hr]
    simp
    intro e; exact hab (by rw [e])

/- spec.SameTranscripts -/
theorem ok89 (a b : List (List Int)) (hl : a.length ≤ 1099511627776) (w : ∀ y ∈ a, y.length ≤ 1099511627776) {f0 f1 : Fl} (h0 : inFl f0 = true) (h1 : inFl f1 = true) : fix Tb md 89 [R (row fR a) f0, R (row fR b) f1] = some ⟨[B (decide (a = b))], [], none⟩ := by
  refine fix_fn (fn := ir89) tb_89 rfl rfl (by decide) rfl ?_; simp only [shutArgs, shutS, List.map_cons, List.map_nil, ir89, shut_in h0, shut_in h1, List.head?_nil, reduceCtorEq, if_false, sExt, sHello, sAnswer, sEdit, sDeal, sBox, sDialed, sKnown]
  generalize hr : (⟨_, [], none⟩ : Ret) = r
  obtain ⟨ea, hea⟩ : ∃ y_, y_ = row fR a := ⟨_, rfl⟩
  obtain ⟨eb, heb⟩ : ∃ y_, y_ = row fR b := ⟨_, rfl⟩
  rw [← hea, ← heb]
  intro add sub mul arith eq ne lt le gt ge neg conv mn mx not beq len at' ln bd cut app allS isNil mks set o hP F ho
  have la := F.len_at hea
  have lb := F.len_at heb
  cbv
  by_cases hab : a.length = b.length
  · rw [F.ne_f (by unfold At at la lb; omega)]; cbv
    refine loop_ind hP (σ := List (List Int) × List (List Int) × List (List Int) × Int) (fun s => [(0, R ea .sh), (1, R eb .sh), (4, B false), (5, I s.2.2.2)]) (fun s => At s.2.2.2 s.1.length ∧ a = s.1 ++ s.2.1 ∧ b = s.1 ++ s.2.2.1) (fun s => s.2.1.length) ([], a, b, 0) rfl ⟨rfl, rfl, rfl⟩ ?_
    rintro ⟨pre, sa, sb, i⟩ ⟨hi, ha, hb⟩ ih
    simp only at hi ha hb ih
    cbv
    have hlen : sa.length = sb.length := by simp [ha, hb] at hab; exact hab
    match sa, sb, hlen, ha, hb with
    | [], [], _, ha, hb =>
      rw [F.lt_f hi la (by simp [ha])]; cbv
      rw [← hr]; simp [ha, hb]
    | x :: sa, y :: sb, _, ha, hb =>
      rw [F.lt_t hi la (by simp [ha])]; cbv
      obtain ⟨ix, hix⟩ : ∃ y_, y_ = pre.length * 1 := ⟨_, rfl⟩
      obtain ⟨ex, hex⟩ : ∃ y_, y_ = row fI x := ⟨_, rfl⟩
      obtain ⟨ey, hey⟩ : ∃ y_, y_ = row fI y := ⟨_, rfl⟩
      rw [show at' 1 ea i = some (ix, [.row () ex]) by rw [hix, hex]; exact F.get hi hea ha (fun _ => rfl) (by decide)]; cbv
      rw [show at' 1 eb i = some (ix, [.row () ey]) by rw [hix, hey]; exact F.get hi heb hb (fun _ => rfl) (by decide)]; cbv
      obtain ⟨v, hv⟩ : ∃ y_, y_ = decide (x = y) := ⟨_, rfl⟩
      rw [show o 228 [R ex (.sp 0 0), R ey (.sp 1 0)] = some ⟨[B v], [], none⟩ by rw [ho, hv, hex, hey]; exact ok228 _ _ (w x (by rw [ha]; simp)) rfl rfl]; cbv
      refine both (fun c => ?_) (fun c => ?_) <;> rw [c] <;> cbv
      · rw [F.not] at c
        rw [← hr, ha, hb]; simp at c ⊢; simp_all
      · rw [F.not] at c
        have hxy : x = y := by simp at c; simp_all
        refine ih (pre ++ [x], sa, sb, add .i64 i 1) ⟨at_len (F.inc hi (by simp [ha] at hl; omega)) (by simp), by simp [ha], by simp [hb, hxy]⟩ (by simp)
  · rw [F.ne_t (by unfold At at la lb; omega)]; cbv
    rw [← hr]
    simp
    intro e; exact hab (by rw [e])

/- slices.Equal[[]int,int] -/
theorem ok229 (a b : List Int) (hl : a.length ≤ 1099511627776) {f0 f1 : Fl} (h0 : inFl f0 = true) (h1 : inFl f1 = true) : fix Tb md 229 [R (row fI a) f0, R (row fI b) f1] = some ⟨[B (decide (a = b))], [], none⟩ := by
  refine fix_fn (fn := ir229) tb_229 rfl rfl (by decide) rfl ?_; simp only [shutArgs, shutS, List.map_cons, List.map_nil, ir229, shut_in h0, shut_in h1, List.head?_nil, reduceCtorEq, if_false, sExt, sHello, sAnswer, sEdit, sDeal, sBox, sDialed, sKnown]
  generalize hr : (⟨_, [], none⟩ : Ret) = r
  obtain ⟨ea, hea⟩ : ∃ y_, y_ = row fI a := ⟨_, rfl⟩
  obtain ⟨eb, heb⟩ : ∃ y_, y_ = row fI b := ⟨_, rfl⟩
  rw [← hea, ← heb]
  intro add sub mul arith eq ne lt le gt ge neg conv mn mx not beq len at' ln bd cut app allS isNil mks set o hP F ho
  have la := F.len_at hea
  have lb := F.len_at heb
  cbv
  by_cases hab : a.length = b.length
  · rw [F.ne_f (by unfold At at la lb; omega)]; cbv
    refine loop_ind hP (σ := List Int × List Int × List Int × Int × Option Int) (fun s => match s.2.2.2.2 with | none => [(0, R ea .sh), (1, R eb .sh), (4, B false), (12, I (len ea)), (13, I s.2.2.2.1)] | some j => [(0, R ea .sh), (1, R eb .sh), (4, B false), (5, I j), (12, I (len ea)), (13, I s.2.2.2.1)]) (fun s => At s.2.2.2.1 s.1.length ∧ a = s.1 ++ s.2.1 ∧ b = s.1 ++ s.2.2.1) (fun s => s.2.1.length) ([], a, b, 0, none) rfl ⟨rfl, rfl, rfl⟩ ?_
    rintro ⟨pre, sa, sb, i, j⟩ ⟨hi, ha, hb⟩ ih
    simp only at hi ha hb ih
    have hlen : sa.length = sb.length := by simp [ha, hb] at hab; exact hab
    cases j <;> cbv <;> (
      match sa, sb, hlen, ha, hb with
      | [], [], _, ha, hb =>
        rw [F.lt_f hi la (by simp [ha])]; cbv
        rw [← hr]; simp [ha, hb]
      | x :: sa, y :: sb, _, ha, hb =>
        rw [F.lt_t hi la (by simp [ha])]; cbv
        obtain ⟨ix, hix⟩ : ∃ y_, y_ = pre.length * 1 := ⟨_, rfl⟩
        rw [show at' 1 ea i = some (ix, [.int .i64 x]) by rw [hix]; exact F.get hi hea ha (fun _ => rfl) (by decide)]; cbv
        rw [show at' 1 eb i = some (ix, [.int .i64 y]) by rw [hix]; exact F.get hi heb hb (fun _ => rfl) (by decide)]; cbv
        by_cases hxy : x = y
        · rw [F.ne_f hxy]; cbv
          refine ih (pre ++ [x], sa, sb, add .i64 i 1, some i) ⟨at_len (F.inc hi (by simp [ha] at hl; omega)) (by simp), by simp [ha], by simp [hb, hxy]⟩ (by simp)
        · rw [F.ne_t hxy]; cbv
          rw [← hr]; simp [ha, hb, hxy])
  · rw [F.ne_t (by unfold At at la lb; omega)]; cbv
    rw [← hr]
    simp
    intro e; exact hab (by rw [e])

/- impl.EqualInts -/
theorem ok177 (a b : List Int) (hl : a.length ≤ 1099511627776) {f0 f1 : Fl} (h0 : inFl f0 = true) (h1 : inFl f1 = true) : fix Tb md 177 [R (row fI a) f0, R (row fI b) f1] = some ⟨[B (decide (a = b))], [], none⟩ := by
  refine fix_fn (fn := ir177) tb_177 rfl rfl (by decide) rfl ?_; simp only [shutArgs, shutS, List.map_cons, List.map_nil, ir177, shut_in h0, shut_in h1, List.head?_nil, reduceCtorEq, if_false, sExt, sHello, sAnswer, sEdit, sDeal, sBox, sDialed, sKnown]
  generalize hr : (⟨_, [], none⟩ : Ret) = r
  obtain ⟨ea, hea⟩ : ∃ y_, y_ = row fI a := ⟨_, rfl⟩
  obtain ⟨eb, heb⟩ : ∃ y_, y_ = row fI b := ⟨_, rfl⟩
  rw [← hea, ← heb]
  obtain ⟨v, hv⟩ : ∃ y_, y_ = decide (a = b) := ⟨_, rfl⟩
  intro add sub mul arith eq ne lt le gt ge neg conv mn mx not beq len at' ln bd cut app allS isNil mks set o hP F ho
  have c1 : o 229 [R ea (.sp 0 0), R eb (.sp 1 0)] = some ⟨[B v], [], none⟩ := by rw [ho, hv, hea, heb]; exact ok229 _ _ hl rfl rfl
  cbv
  rw [c1]; cbv
  rw [← hr, hv]

/- slices.EqualFunc[[][]int,[][]int,[]int,[]int] -/
theorem ok237 (a b : List (List Int)) (hl : a.length ≤ 1099511627776) (w : ∀ y ∈ a, y.length ≤ 1099511627776) {f0 f1 : Fl} (h0 : inFl f0 = true) (h1 : inFl f1 = true) : fix Tb md 237 [R (row fR a) f0, R (row fR b) f1, ⟨.val, [⟨.fn 177 [], .sh⟩]⟩] = some ⟨[B (decide (a = b))], [], none⟩ := by
  refine fix_fn (fn := ir237) tb_237 rfl rfl (by decide) rfl ?_; simp only [shutArgs, shutS, List.map_cons, List.map_nil, ir237, shut_in h0, shut_in h1, List.head?_nil, reduceCtorEq, if_false, sExt, sHello, sAnswer, sEdit, sDeal, sBox, sDialed, sKnown]
  generalize hr : (⟨_, [], none⟩ : Ret) = r
  obtain ⟨ea, hea⟩ : ∃ y_, y_ = row fR a := ⟨_, rfl⟩
  obtain ⟨eb, heb⟩ : ∃ y_, y_ = row fR b := ⟨_, rfl⟩
  rw [← hea, ← heb]
  intro add sub mul arith eq ne lt le gt ge neg conv mn mx not beq len at' ln bd cut app allS isNil mks set o hP F ho
  have la := F.len_at hea
  have lb := F.len_at heb
  cbv
  by_cases hab : a.length = b.length
  · rw [F.ne_f (by unfold At at la lb; omega)]; cbv
    refine loop_ind hP (σ := List (List Int) × List (List Int) × List (List Int) × Int × Option (Int × List (List V) × List (List V)))
      (fun s => match s.2.2.2.2 with
        | none => [(0, R ea .sh), (1, R eb .sh), (2, ⟨.val, [⟨.fn 177 [], .sh⟩]⟩), (6, B false), (15, R ea .sh), (16, I (len ea)), (17, I s.2.2.2.1)]
        | some j => [(0, R ea .sh), (1, R eb .sh), (2, ⟨.val, [⟨.fn 177 [], .sh⟩]⟩), (6, B false), (7, I j.1), (8, R j.2.1 .sh), (9, R j.2.2 .sh), (15, R ea .sh), (16, I (len ea)), (17, I s.2.2.2.1)])
      (fun s => At s.2.2.2.1 s.1.length ∧ a = s.1 ++ s.2.1 ∧ b = s.1 ++ s.2.2.1) (fun s => s.2.1.length) ([], a, b, 0, none) rfl ⟨rfl, rfl, rfl⟩ ?_
    rintro ⟨pre, sa, sb, i, j⟩ ⟨hi, ha, hb⟩ ih
    simp only at hi ha hb ih
    have hlen : sa.length = sb.length := by simp [ha, hb] at hab; exact hab
    cases j <;> cbv <;> (
    match sa, sb, hlen, ha, hb with
    | [], [], _, ha, hb =>
      rw [F.lt_f hi la (by simp [ha])]; cbv
      rw [← hr]; simp [ha, hb]
    | x :: sa, y :: sb, _, ha, hb =>
      rw [F.lt_t hi la (by simp [ha])]; cbv
      obtain ⟨ix, hix⟩ : ∃ y_, y_ = pre.length * 1 := ⟨_, rfl⟩
      obtain ⟨ex, hex⟩ : ∃ y_, y_ = row fI x := ⟨_, rfl⟩
      obtain ⟨ey, hey⟩ : ∃ y_, y_ = row fI y := ⟨_, rfl⟩
      rw [show at' 1 ea i = some (ix, [.row () ex]) by rw [hix, hex]; exact F.get hi hea ha (fun _ => rfl) (by decide)]; cbv
      rw [show at' 1 eb i = some (ix, [.row () ey]) by rw [hix, hey]; exact F.get hi heb hb (fun _ => rfl) (by decide)]; cbv
      obtain ⟨v, hv⟩ : ∃ y_, y_ = decide (x = y) := ⟨_, rfl⟩
      rw [show o 177 [R ex (.sp 0 0), R ey (.sp 1 0)] = some ⟨[B v], [], none⟩ by rw [ho, hv, hex, hey]; exact ok177 _ _ (w x (by rw [ha]; simp)) rfl rfl]; cbv
      refine both (fun c => ?_) (fun c => ?_) <;> rw [c] <;> cbv
      · rw [F.not] at c
        rw [← hr, ha, hb]; simp at c ⊢; simp_all
      · rw [F.not] at c
        have hxy : x = y := by simp at c; simp_all
        refine ih (pre ++ [x], sa, sb, add .i64 i 1, some (i, ex, ey)) ⟨at_len (F.inc hi (by simp [ha] at hl; omega)) (by simp), by simp [ha], by simp [hb, hxy]⟩ (by simp))
  · rw [F.ne_t (by unfold At at la lb; omega)]; cbv
    rw [← hr]
    simp
    intro e; exact hab (by rw [e])

/- impl.SameTranscripts -/
theorem ok90 (a b : List (List Int)) (hl : a.length ≤ 1099511627776) (w : ∀ y ∈ a, y.length ≤ 1099511627776) {f0 f1 : Fl} (h0 : inFl f0 = true) (h1 : inFl f1 = true) : fix Tb md 90 [R (row fR a) f0, R (row fR b) f1] = some ⟨[B (decide (a = b))], [], none⟩ := by
  refine fix_fn (fn := ir90) tb_90 rfl rfl (by decide) rfl ?_; simp only [shutArgs, shutS, List.map_cons, List.map_nil, ir90, shut_in h0, shut_in h1, List.head?_nil, reduceCtorEq, if_false, sExt, sHello, sAnswer, sEdit, sDeal, sBox, sDialed, sKnown]
  generalize hr : (⟨_, [], none⟩ : Ret) = r
  obtain ⟨ea, hea⟩ : ∃ y_, y_ = row fR a := ⟨_, rfl⟩
  obtain ⟨eb, heb⟩ : ∃ y_, y_ = row fR b := ⟨_, rfl⟩
  rw [← hea, ← heb]
  obtain ⟨v, hv⟩ : ∃ y_, y_ = decide (a = b) := ⟨_, rfl⟩
  intro add sub mul arith eq ne lt le gt ge neg conv mn mx not beq len at' ln bd cut app allS isNil mks set o hP F ho
  have c1 : o 237 [R ea (.sp 0 0), R eb (.sp 1 0), ⟨.val, [⟨.fn 177 [], .sh⟩]⟩] = some ⟨[B v], [], none⟩ := by rw [ho, hv, hea, heb]; exact ok237 _ _ hl w rfl rfl
  cbv
  rw [c1]; cbv
  rw [← hr, hv]

/- laws.FnExactSameTranscripts -/
theorem law10 (a : List (List Int)) (wa : a.length ≤ 9223372036854775807 ∧ ∀ y ∈ a, (y.length ≤ 9223372036854775807 ∧ ∀ n ∈ y, Int64 n)) (b : List (List Int)) (wb : b.length ≤ 9223372036854775807 ∧ ∀ y ∈ b, (y.length ≤ 9223372036854775807 ∧ ∀ n ∈ y, Int64 n)) :
    fix Tb md 10 [R (row fR a) (.sp 0 0), R (row fR b) (.sp 1 0)] = some ⟨[B true], [], none⟩ := by
  refine fix_fn (fn := ir10) tb_10 rfl rfl (by decide) rfl ?_; simp only [shutArgs, shutS, List.map_cons, List.map_nil, ir10, List.head?_nil, reduceCtorEq, if_false, sExt, sHello, sAnswer, sEdit, sDeal, sBox, sDialed, sKnown, shut_in (f := .sp 0 0) rfl, shut_in (f := .sp 1 0) rfl]
  generalize hr : (⟨_, [], none⟩ : Ret) = r
  obtain ⟨e1, he1⟩ : ∃ y_, y_ = row fR a := ⟨_, rfl⟩
  obtain ⟨e2, he2⟩ : ∃ y_, y_ = row fR b := ⟨_, rfl⟩
  rw [← he1, ← he2]
  obtain ⟨v1, hv1⟩ : ∃ y_, y_ = szL szR a 1048576 := ⟨_, rfl⟩
  have u1 : v1 ≤ 1048576 := by rw [hv1]; exact (Sz.list szR_Sz a).up (by decide)
  have s1 := fun q : 0 ≤ v1 => (Sz.list szR_Sz a).ok 1048576 (by decide) (hv1 ▸ q)
  obtain ⟨v2, hv2⟩ : ∃ y_, y_ = szL szR b v1 := ⟨_, rfl⟩
  have u2 : v2 ≤ 1048576 := by rw [hv2]; exact (Sz.list szR_Sz b).up u1
  have s2 := fun q : 0 ≤ v2 => (Sz.list szR_Sz b).ok v1 u1 (hv2 ▸ q)
  obtain ⟨w, hw⟩ : ∃ y_, y_ = decide (a = b) := ⟨_, rfl⟩
  intro add sub mul arith eq ne lt le gt ge neg conv mn mx not beq len at' ln bd cut app allS isNil mks set o hP F ho
  have b1 : o 70 [R e1 (.sp 0 0), I 1048576] = some ⟨[I v1], [], none⟩ := by rw [ho, hv1, he1]; exact ok70 a _ wa (by decide) (by decide) rfl 
  have b2 : 0 ≤ v1 → o 70 [R e2 (.sp 0 0), I v1] = some ⟨[I v2], [], none⟩ := by intro q; rw [ho, hv2, he2]; exact ok70 b _ wb q u1 rfl 
  cbv
  rw [b1]; cbv
  refine both (fun d1 => ?_) (fun d1 => ?_) <;> rw [d1] <;> cbv
  · exact congrArg some hr
  have p1 : 0 ≤ v1 := by simp only [F.lt, decide_eq_false_iff_not] at d1; omega
  have ta := s1 p1
  have tam : a.length ≤ 1073741824 ∧ ∀ y ∈ a, y.length ≤ 1073741824 := ⟨Nat.le_trans ta.1 (by decide), fun y hy => Nat.le_trans (ta.2 y hy) (by decide)⟩
  have ra := ta
  rw [b2 p1]; cbv
  refine both (fun d2 => ?_) (fun d2 => ?_) <;> rw [d2] <;> cbv
  · exact congrArg some hr
  have p2 : 0 ≤ v2 := by simp only [F.lt, decide_eq_false_iff_not] at d2; omega
  have tb := s2 p2
  have tbm : b.length ≤ 1073741824 ∧ ∀ y ∈ b, y.length ≤ 1073741824 := ⟨Nat.le_trans tb.1 (by decide), fun y hy => Nat.le_trans (tb.2 y hy) (by decide)⟩
  have rb := tb
  have ka : o 72 [R e1 (.sp 0 0)] = some ⟨[R e1 (.ow false)], [], none⟩ := by rw [ho, he1]; exact ok72 a tam rfl 
  have qa : o 74 [R e1 (.sp 0 0), R e1 (.sp 1 0)] = some ⟨[B true], [], none⟩ := by rw [ho, he1]; exact ok74 a tam rfl  rfl 
  have kb : o 72 [R e2 (.sp 0 0)] = some ⟨[R e2 (.ow false)], [], none⟩ := by rw [ho, he2]; exact ok72 b tbm rfl 
  have qb : o 74 [R e2 (.sp 0 0), R e2 (.sp 1 0)] = some ⟨[B true], [], none⟩ := by rw [ho, he2]; exact ok74 b tbm rfl  rfl 
  have m1 : o 89 [R e1 (.sp 0 0), R e2 (.sp 1 0)] = some ⟨[B w], [], none⟩ := by rw [ho, hw, he1, he2]; exact ok89 _ _ (by omega) (fun y hy => Nat.le_trans (ra.2 y hy) (by decide)) rfl rfl
  have m2 : o 90 [R e1 (.sp 0 0), R e2 (.sp 1 0)] = some ⟨[B w], [], none⟩ := by rw [ho, hw, he1, he2]; exact ok90 _ _ (by omega) (fun y hy => Nat.le_trans (ra.2 y hy) (by decide)) rfl rfl
  repeat' (first | (rw [ka]; cbv) | (rw [qa]; cbv) | (rw [kb]; cbv) | (rw [qb]; cbv) | (rw [m1]; cbv) | (rw [m2]; cbv) | (rw [F.ne_f rfl]; cbv) | (rw [show not (beq w w) = false by rw [F.not, F.beq]; simp]; cbv) | (rw [show not true = false by rw [F.not]; rfl]; cbv) | exact congrArg some hr)
theorem ans10 : Answers Tb md 10 [(false, [.row [.row [.int .i64]]]), (false, [.row [.row [.int .i64]]])] := answers_of (by
  intro vs h
  obtain ⟨_, _, rfl, h1, h⟩ := fitL_cons h
  cases fitL_nil h
  obtain ⟨a, rfl, wa⟩ := fit_row (fun _ => fitL_R) h1
  intro vs h
  obtain ⟨_, _, rfl, h1, h⟩ := fitL_cons h
  cases fitL_nil h
  obtain ⟨b, rfl, wb⟩ := fit_row (fun _ => fitL_R) h1
  exact law10 a wa b wb)

end Go.Vm
