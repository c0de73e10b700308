/- What the functions answer. -/
import Derived.Test.YtplnbpiaacohnaaL19Tab
set_option maxHeartbeats 4000000
set_option maxRecDepth 10000
set_option linter.unusedVariables false
set_option linter.unusedSimpArgs false
namespace Go.Vm

/- spec.EqualInts -/
theorem ok228 (a b : List Int) (hl : a.length ≤ 1099511627776) {f0 f1 : Fl} (h0 : inFl f0 = true) (h1 : inFl f1 = true) : fix Tb md 228 [R (row fI a) f0, R (row fI b) f1] = some ⟨[B (decide (a = b))], [], none⟩ := by
  refine fix_fn (fn := ir228) tb_228 rfl rfl (by decide) rfl ?_; simp only [shutArgs, shutS, List.map_cons, List.map_nil, ir228, shut_in h0, shut_in h1, List.head?_nil, reduceCtorEq, if_false, sExt, sHello, sAnswer, sEdit, sDeal, sBox, sDialed, sKnown]
  generalize hr : (⟨_, [], none⟩ : Ret) = r
  obtain ⟨ea, hea⟩ : ∃ y_, y_ = row fI a := ⟨_, rfl⟩
  obtain ⟨eb, heb⟩ : ∃ y_, y_ = row fI b := ⟨_, rfl⟩
  rw [← hea, ← heb]
  intro add sub mul arith eq ne lt le gt ge neg conv mn mx not beq len at' ln bd cut app allS isNil mks set o hP F ho
  have la := F.len_at hea
  have lb := F.len_at heb
  cbv
  by_cases hab : a.length = b.length
  · rw [F.ne_f (by unfold At at la lb; omega)]; cbv
    refine loop_ind hP (σ := List Int × List Int × List Int × Int) (fun s => [(0, R ea .sh), (1, R eb .sh), (4, B false), (5, I s.2.2.2)]) (fun s => At s.2.2.2 s.1.length ∧ a = s.1 ++ s.2.1 ∧ b = s.1 ++ s.2.2.1) (fun s => s.2.1.length) ([], a, b, 0) rfl ⟨rfl, rfl, rfl⟩ ?_
    rintro ⟨pre, sa, sb, i⟩ ⟨hi, ha, hb⟩ ih
    simp only at hi ha hb ih
    cbv
    have hlen : sa.length = sb.length := by simp [ha, hb] at hab; exact hab
    match sa, sb, hlen, ha, hb with
    | [], [], _, ha, hb =>
      rw [F.lt_f hi la (by simp [ha])]; cbv
      rw [← hr]; simp [ha, hb]
    | x :: sa, y :: sb, _, ha, hb =>
      rw [F.lt_t hi la (by simp [ha])]; cbv
      obtain ⟨ix, hix⟩ : ∃ y_, y_ = pre.length * 1 := ⟨_, rfl⟩
      rw [show at' 1 ea i = some (ix, [.int .i64 x]) by rw [hix]; exact F.get hi hea ha (fun _ => rfl) (by decide)]; cbv
      rw [show at' 1 eb i = some (ix, [.int .i64 y]) by rw [hix]; exact F.get hi heb hb (fun _ => rfl) (by decide)]; cbv
      by_cases hxy : x = y
      · rw [F.ne_f hxy]; cbv
        refine ih (pre ++ [x], sa, sb, add .i64 i 1) ⟨at_len (F.inc hi (by simp [ha] at hl; omega)) (by simp), by simp [ha], by simp [hb, hxy]⟩ (by simp)
      · rw [F.ne_t hxy]; cbv
        rw [← hr]; simp [ha, hb, hxy]
  · rw [F.ne_t (by unfold At at la lb; omega)]; cbv
    rw [← hr]
    simp
    intro e; exact hab (by rw [e])

/- spec.EqualExts -/
theorem ext_cons {x y : Ext} {a b : List Ext} : (x :: a = y :: b) ↔ (x.tag = y.tag ∧ x.body = y.body) ∧ a = b := by rw [List.cons.injEq, Ext.eq_iff]
theorem ok272 (a b : List Ext) (hl : a.length ≤ 1099511627776) (w : ∀ y ∈ a, y.body.length ≤ 1099511627776) {f0 f1 : Fl} (h0 : inFl f0 = true) (h1 : inFl f1 = true) : fix Tb md 272 [R (row fExt a) f0, R (row fExt b) f1] = some ⟨[B (decide (a = b))], [], none⟩ := by
  obtain ⟨T, hT⟩ : ∃ y_, y_ = decide (a = b) := ⟨_, rfl⟩
  rw [← hT]
  generalize hr : (⟨_, [], none⟩ : Ret) = r
  obtain ⟨ea, hea⟩ : ∃ y_, y_ = row fExt a := ⟨_, rfl⟩
  obtain ⟨eb, heb⟩ : ∃ y_, y_ = row fExt b := ⟨_, rfl⟩
  rw [← hea, ← heb]
  obtain ⟨nb, hnb⟩ : ∃ y_, y_ = decide (a.length ≠ b.length) := ⟨_, rfl⟩
  refine fix_fn2 (fn := ir272) tb_272 rfl rfl (by decide) rfl ?_; intro Q hQ; simp only [shutArgs, shutS, List.map_cons, List.map_nil, ir272, shut_in h0, shut_in h1, List.head?_nil, reduceCtorEq, if_false, sExt, sHello, sAnswer, sEdit, sDeal, sBox, sDialed, sKnown]
  intro add sub mul arith eq ne lt le gt ge neg conv mn mx not beq len at' ln bd cut app allS isNil mks set o hP F ho
  have la := F.len_at hea
  have lb := F.len_at heb
  have hne : ne (len ea) (len eb) = nb := by unfold At at la lb; rw [F.ne, la, lb, hnb]; simp; omega
  cbv
  rw [hne]; cbv
  refine both (fun d0 => ?_) (fun d0 => ?_) <;> rw [d0] <;> cbv
  · rw [hQ]; cbv
    rw [← hr, show T = false by rw [hT]; rw [hnb] at d0; simp at d0 ⊢; intro e; exact d0 (by rw [e])]
  have hab : a.length = b.length := by rw [hnb] at d0; simpa using d0
  refine loop_ind2 hP (σ := List Ext × List Ext × List Ext × Int) (fun s => [(0, R ea .sh), (1, R eb .sh), (4, B false), (5, I s.2.2.2)]) (fun s => At s.2.2.2 s.1.length ∧ a = s.1 ++ s.2.1 ∧ b = s.1 ++ s.2.2.1) (fun s => s.2.1.length) ([], a, b, 0) rfl ⟨rfl, rfl, rfl⟩ ?_
  intro c1 Q1 hc1 hQ1
  rintro ⟨pre, sa, sb, i⟩ ⟨hi, ha, hb⟩ ih
  simp only at hi ha hb ih
  cbv
  have hlen : sa.length = sb.length := by simp [ha, hb] at hab; exact hab
  match sa, sb, hlen, ha, hb with
  | [], [], _, ha, hb =>
    rw [F.lt_f hi la (by simp [ha])]; cbv
    rw [hQ1]; cbv
    rw [hQ]; cbv
    rw [← hr, hT]; simp [ha, hb]
  | x :: sa, y :: sb, _, ha, hb =>
    obtain ⟨ix, hix⟩ : ∃ y_, y_ = pre.length * 2 := ⟨_, rfl⟩
    obtain ⟨ex, hex⟩ : ∃ y_, y_ = row fI x.body := ⟨_, rfl⟩
    obtain ⟨ey, hey⟩ : ∃ y_, y_ = row fI y.body := ⟨_, rfl⟩
    have p0 : at' 2 ea i = some (ix, [.int .i64 x.tag, .row () ex]) := by rw [hix, hex]; exact F.get hi hea ha (fun _ => rfl) (by decide)
    have p1 : at' 2 eb i = some (ix, [.int .i64 y.tag, .row () ey]) := by rw [hix, hey]; exact F.get hi heb hb (fun _ => rfl) (by decide)
    obtain ⟨v, hv⟩ : ∃ y_, y_ = decide (x.body = y.body) := ⟨_, rfl⟩
    obtain ⟨u, hu⟩ : ∃ y_, y_ = decide (x.tag ≠ y.tag) := ⟨_, rfl⟩
    have hT' : T = (!u && v && decide (sa = sb)) := by
      rw [hT, ha, hb, hu, hv]; simp only [List.append_cancel_left_eq, ext_cons]
      by_cases k1 : x.tag = y.tag <;> by_cases k2 : x.body = y.body <;> simp [k1, k2]
    have c2 : o 228 [R ex (.sp 0 0), R ey (.sp 1 0)] = some ⟨[B v], [], none⟩ := by rw [ho, hv, hex, hey]; exact ok228 _ _ (w x (by rw [ha]; simp)) rfl rfl
    have g1 : ne x.tag y.tag = u := by rw [F.ne, hu]
    rw [F.lt_t hi la (by simp [ha])]; cbv
    rw [p0]; cbv
    rw [p1]; cbv
    rw [g1]; cbv
    refine both (fun d1 => ?_) (fun d1 => ?_) <;> rw [d1] <;> cbv
    · rw [hQ1]; cbv
      rw [hQ]; cbv
      rw [← hr, hT', d1]; rfl
    rw [p0]; cbv
    rw [p1]; cbv
    rw [c2]; cbv
    refine both (fun d2 => ?_) (fun d2 => ?_) <;> rw [d2] <;> cbv
    · rw [hQ1]; cbv
      rw [hQ]; cbv
      rw [← hr, hT', F.not_t d2]; simp
    have hxy : x = y := by
      rw [Ext.eq_iff]
      have e2 := F.not_f d2
      rw [hv] at e2
      rw [hu] at d1
      simp at d1 e2
      exact ⟨d1, e2⟩
    refine ih (pre ++ [x], sa, sb, add .i64 i 1) ⟨at_len (F.inc hi (by simp [ha] at hl; omega)) (by simp), by simp [ha], by simp [hb, hxy]⟩ (by simp)

/- spec.EqualHellos -/
theorem ok130 (a b : Hello) (hvv : a.versions.length ≤ 1099511627776) (hl : a.exts.length ≤ 1099511627776) (w : ∀ y ∈ a.exts, y.body.length ≤ 1099511627776) {f0 f1 g0 g1 : Fl} (q0 : inFl f0 = true) (q1 : inFl f1 = true) (p0 : inFl g0 = true) (p1 : inFl g1 = true) :
    fix Tb md 130 [sHello (row fI a.versions) (row fExt a.exts) f0 f1, sHello (row fI b.versions) (row fExt b.exts) g0 g1] = some ⟨[B (decide (a = b))], [], none⟩ := by
  obtain ⟨u, hu⟩ : ∃ y_, y_ = decide (a.versions = b.versions) := ⟨_, rfl⟩
  obtain ⟨v, hv⟩ : ∃ y_, y_ = decide (a.exts = b.exts) := ⟨_, rfl⟩
  rw [show decide (a = b) = (u && v) by rw [hu, hv]; simp only [Hello.eq_iff]; by_cases k1 : a.versions = b.versions <;> by_cases k2 : a.exts = b.exts <;> simp [k1, k2]]
  generalize hr : (⟨_, [], none⟩ : Ret) = r
  obtain ⟨d0, hd0⟩ : ∃ y_, y_ = row fI a.versions := ⟨_, rfl⟩
  obtain ⟨e0, he0⟩ : ∃ y_, y_ = row fI b.versions := ⟨_, rfl⟩
  obtain ⟨d1, hd1⟩ : ∃ y_, y_ = row fExt a.exts := ⟨_, rfl⟩
  obtain ⟨e1, he1⟩ : ∃ y_, y_ = row fExt b.exts := ⟨_, rfl⟩
  rw [← hd0, ← he0, ← hd1, ← he1]
  refine fix_fn2 (fn := ir130) tb_130 rfl rfl (by decide) rfl ?_; intro Q hQ; simp only [shutArgs, shutS, List.map_cons, List.map_nil, ir130, shut_in q0, shut_in q1, shut_in p0, shut_in p1, List.head?_nil, reduceCtorEq, if_false, sExt, sHello, sAnswer, sEdit, sDeal, sBox, sDialed, sKnown]
  intro add sub mul arith eq ne lt le gt ge neg conv mn mx not beq len at' ln bd cut app allS isNil mks set o hP F ho
  have c1 : o 228 [R d0 (.sp 0 0), R e0 (.sp 1 0)] = some ⟨[B u], [], none⟩ := by rw [ho, hu, hd0, he0]; exact ok228 _ _ hvv rfl rfl
  have c2 : o 272 [R d1 (.sp 0 0), R e1 (.sp 1 0)] = some ⟨[B v], [], none⟩ := by rw [ho, hv, hd1, he1]; exact ok272 _ _ hl w rfl rfl
  cbv
  rw [c1]; cbv
  refine both (fun d1 => ?_) (fun d1 => ?_) <;> rw [d1] <;> cbv
  · rw [c2]; cbv
    rw [hQ]; cbv
    rw [← hr, d1]; rfl
  · rw [hQ]; cbv
    rw [← hr, d1]; rfl

/- slices.Equal[[]int,int] -/
theorem ok229 (a b : List Int) (hl : a.length ≤ 1099511627776) {f0 f1 : Fl} (h0 : inFl f0 = true) (h1 : inFl f1 = true) : fix Tb md 229 [R (row fI a) f0, R (row fI b) f1] = some ⟨[B (decide (a = b))], [], none⟩ := by
  refine fix_fn (fn := ir229) tb_229 rfl rfl (by decide) rfl ?_; simp only [shutArgs, shutS, List.map_cons, List.map_nil, ir229, shut_in h0, shut_in h1, List.head?_nil, reduceCtorEq, if_false, sExt, sHello, sAnswer, sEdit, sDeal, sBox, sDialed, sKnown]
  generalize hr : (⟨_, [], none⟩ : Ret) = r
  obtain ⟨ea, hea⟩ : ∃ y_, y_ = row fI a := ⟨_, rfl⟩
  obtain ⟨eb, heb⟩ : ∃ y_, y_ = row fI b := ⟨_, rfl⟩
  rw [← hea, ← heb]
  intro add sub mul arith eq ne lt le gt ge neg conv mn mx not beq len at' ln bd cut app allS isNil mks set o hP F ho
  have la := F.len_at hea
  have lb := F.len_at heb
  cbv
  by_cases hab : a.length = b.length
  · rw [F.ne_f (by unfold At at la lb; omega)]; cbv
    refine loop_ind hP (σ := List Int × List Int × List Int × Int × Option Int) (fun s => match s.2.2.2.2 with | none => [(0, R ea .sh), (1, R eb .sh), (4, B false), (12, I (len ea)), (13, I s.2.2.2.1)] | some j => [(0, R ea .sh), (1, R eb .sh), (4, B false), (5, I j), (12, I (len ea)), (13, I s.2.2.2.1)]) (fun s => At s.2.2.2.1 s.1.length ∧ a = s.1 ++ s.2.1 ∧ b = s.1 ++ s.2.2.1) (fun s => s.2.1.length) ([], a, b, 0, none) rfl ⟨rfl, rfl, rfl⟩ ?_
    rintro ⟨pre, sa, sb, i, j⟩ ⟨hi, ha, hb⟩ ih
    simp only at hi ha hb ih
    have hlen : sa.length = sb.length := by simp [ha, hb] at hab; exact hab
    cases j <;> cbv <;> (
      match sa, sb, hlen, ha, hb with
      | [], [], _, ha, hb =>
        rw [F.lt_f hi la (by simp [ha])]; cbv
        rw [← hr]; simp [ha, hb]
      | x :: sa, y :: sb, _, ha, hb =>
        rw [F.lt_t hi la (by simp [ha])]; cbv
        obtain ⟨ix, hix⟩ : ∃ y_, y_ = pre.length * 1 := ⟨_, rfl⟩
        rw [show at' 1 ea i = some (ix, [.int .i64 x]) by rw [hix]; exact F.get hi hea ha (fun _ => rfl) (by decide)]; cbv
        rw [show at' 1 eb i = some (ix, [.int .i64 y]) by rw [hix]; exact F.get hi heb hb (fun _ => rfl) (by decide)]; cbv
        by_cases hxy : x = y
        · rw [F.ne_f hxy]; cbv
          refine ih (pre ++ [x], sa, sb, add .i64 i 1, some i) ⟨at_len (F.inc hi (by simp [ha] at hl; omega)) (by simp), by simp [ha], by simp [hb, hxy]⟩ (by simp)
        · rw [F.ne_t hxy]; cbv
          rw [← hr]; simp [ha, hb, hxy])
  · rw [F.ne_t (by unfold At at la lb; omega)]; cbv
    rw [← hr]
    simp
    intro e; exact hab (by rw [e])

/- impl.equalExt -/
theorem ok291 (x y : Ext) (hx : x.body.length ≤ 1099511627776) {f0 f1 : Fl} (h0 : inFl f0 = true) (h1 : inFl f1 = true) : fix Tb md 291 [sExt x.tag (row fI x.body) f0, sExt y.tag (row fI y.body) f1] = some ⟨[B (decide (x = y))], [], none⟩ := by
  obtain ⟨v, hv⟩ : ∃ y_, y_ = decide (x.body = y.body) := ⟨_, rfl⟩
  obtain ⟨u, hu⟩ : ∃ y_, y_ = decide (x.tag = y.tag) := ⟨_, rfl⟩
  rw [show decide (x = y) = (u && v) by rw [hu, hv]; simp only [Ext.eq_iff]; by_cases k1 : x.tag = y.tag <;> by_cases k2 : x.body = y.body <;> simp [k1, k2]]
  generalize hr : (⟨_, [], none⟩ : Ret) = r
  obtain ⟨ex, hex⟩ : ∃ y_, y_ = row fI x.body := ⟨_, rfl⟩
  obtain ⟨ey, hey⟩ : ∃ y_, y_ = row fI y.body := ⟨_, rfl⟩
  rw [← hex, ← hey]
  refine fix_fn2 (fn := ir291) tb_291 rfl rfl (by decide) rfl ?_; intro Q hQ; simp only [shutArgs, shutS, List.map_cons, List.map_nil, ir291, shut_in h0, shut_in h1, List.head?_nil, reduceCtorEq, if_false, sExt, sHello, sAnswer, sEdit, sDeal, sBox, sDialed, sKnown]
  intro add sub mul arith eq ne lt le gt ge neg conv mn mx not beq len at' ln bd cut app allS isNil mks set o hP F ho
  have c1 : o 229 [R ex (.sp 0 0), R ey (.sp 1 0)] = some ⟨[B v], [], none⟩ := by rw [ho, hv, hex, hey]; exact ok229 _ _ hx rfl rfl
  have g1 : eq x.tag y.tag = u := by rw [F.eq, hu]
  cbv
  rw [g1]; cbv
  refine both (fun d1 => ?_) (fun d1 => ?_) <;> rw [d1] <;> cbv
  · rw [c1]; cbv
    rw [hQ]; cbv
    rw [← hr, d1]; rfl
  · rw [hQ]; cbv
    rw [← hr, d1]; rfl

/- impl.Ext] -/
theorem ok350 (a b : List Ext) (hl : a.length ≤ 1099511627776) (w : ∀ y ∈ a, y.body.length ≤ 1099511627776) {f0 f1 : Fl} (h0 : inFl f0 = true) (h1 : inFl f1 = true) : fix Tb md 350 [R (row fExt a) f0, R (row fExt b) f1, ⟨.val, [⟨.fn 291 [], .sh⟩]⟩] = some ⟨[B (decide (a = b))], [], none⟩ := by
  obtain ⟨T, hT⟩ : ∃ y_, y_ = decide (a = b) := ⟨_, rfl⟩
  rw [← hT]
  generalize hr : (⟨_, [], none⟩ : Ret) = r
  obtain ⟨ea, hea⟩ : ∃ y_, y_ = row fExt a := ⟨_, rfl⟩
  obtain ⟨eb, heb⟩ : ∃ y_, y_ = row fExt b := ⟨_, rfl⟩
  rw [← hea, ← heb]
  obtain ⟨nb, hnb⟩ : ∃ y_, y_ = decide (a.length ≠ b.length) := ⟨_, rfl⟩
  refine fix_fn2 (fn := ir350) tb_350 rfl rfl (by decide) rfl ?_; intro Q hQ; simp only [shutArgs, shutS, List.map_cons, List.map_nil, ir350, shut_in h0, shut_in h1, List.head?_nil, reduceCtorEq, if_false, sExt, sHello, sAnswer, sEdit, sDeal, sBox, sDialed, sKnown]
  intro add sub mul arith eq ne lt le gt ge neg conv mn mx not beq len at' ln bd cut app allS isNil mks set o hP F ho
  have la := F.len_at hea
  have lb := F.len_at heb
  have hne : ne (len ea) (len eb) = nb := by unfold At at la lb; rw [F.ne, la, lb, hnb]; simp; omega
  cbv
  rw [hne]; cbv
  refine both (fun d0 => ?_) (fun d0 => ?_) <;> rw [d0] <;> cbv
  · rw [hQ]; cbv
    rw [← hr, show T = false by rw [hT]; rw [hnb] at d0; simp at d0 ⊢; intro e; exact d0 (by rw [e])]
  have hab : a.length = b.length := by rw [hnb] at d0; simpa using d0
  refine loop_ind2 hP (σ := List Ext × List Ext × List Ext × Int × Option (Int × (Int × List (List V)) × (Int × List (List V)))) (fun s => match s.2.2.2.2 with
     | none => [(0, R ea .sh), (1, R eb .sh), (2, ⟨.val, [⟨.fn 291 [], .sh⟩]⟩), (6, B false), (15, R ea .sh), (16, I (len ea)), (17, I s.2.2.2.1)]
     | some j => [(0, R ea .sh), (1, R eb .sh), (2, ⟨.val, [⟨.fn 291 [], .sh⟩]⟩), (6, B false), (7, I j.1), (8, ⟨.ptr 40 0, []⟩), (9, ⟨.ptr 41 0, []⟩), (15, R ea .sh), (16, I (len ea)), (17, I s.2.2.2.1), (40, ⟨.box (), [⟨.int .i64 j.2.1.1, .sc⟩, ⟨.row () j.2.1.2, .sh⟩]⟩), (41, ⟨.box (), [⟨.int .i64 j.2.2.1, .sc⟩, ⟨.row () j.2.2.2, .sh⟩]⟩)]) (fun s => At s.2.2.2.1 s.1.length ∧ a = s.1 ++ s.2.1 ∧ b = s.1 ++ s.2.2.1) (fun s => s.2.1.length) ([], a, b, 0, none) rfl ⟨rfl, rfl, rfl⟩ ?_
  intro c1 Q1 hc1 hQ1
  rintro ⟨pre, sa, sb, i, j⟩ ⟨hi, ha, hb⟩ ih
  simp only at hi ha hb ih
  have hlen : sa.length = sb.length := by simp [ha, hb] at hab; exact hab
  cases j with
  | none =>
    cbv
    match sa, sb, hlen, ha, hb with
    | [], [], _, ha, hb =>
      rw [F.lt_f hi la (by simp [ha])]; cbv
      rw [hQ1]; cbv
      rw [hQ]; cbv
      rw [← hr, hT]; simp [ha, hb]
    | x :: sa, y :: sb, _, ha, hb =>
      obtain ⟨ix, hix⟩ : ∃ y_, y_ = pre.length * 2 := ⟨_, rfl⟩
      obtain ⟨ex, hex⟩ : ∃ y_, y_ = row fI x.body := ⟨_, rfl⟩
      obtain ⟨ey, hey⟩ : ∃ y_, y_ = row fI y.body := ⟨_, rfl⟩
      have p0 : at' 2 ea i = some (ix, [.int .i64 x.tag, .row () ex]) := by rw [hix, hex]; exact F.get hi hea ha (fun _ => rfl) (by decide)
      have p1 : at' 2 eb i = some (ix, [.int .i64 y.tag, .row () ey]) := by rw [hix, hey]; exact F.get hi heb hb (fun _ => rfl) (by decide)
      obtain ⟨v, hv⟩ : ∃ y_, y_ = decide (x = y) := ⟨_, rfl⟩
      have hT' : T = (v && decide (sa = sb)) := by
        rw [hT, ha, hb, hv]; simp only [List.append_cancel_left_eq, List.cons.injEq]
        by_cases k1 : x = y <;> simp [k1]
      have c2 : o 291 [sExt x.tag ex (.sp 0 1), sExt y.tag ey (.sp 1 1)] = some ⟨[B v], [], none⟩ := by rw [ho, hv, hex, hey]; exact ok291 _ _ (w x (by rw [ha]; simp)) rfl rfl
      rw [F.lt_t hi la (by simp [ha])]; cbv
      rw [p0]; cbv
      rw [p1]; cbv
      rw [c2]; cbv
      refine both (fun d2 => ?_) (fun d2 => ?_) <;> rw [d2] <;> cbv
      · rw [hQ1]; cbv
        rw [hQ]; cbv
        rw [← hr, hT', F.not_t d2]; simp
      have hxy : x = y := by
        have e2 := F.not_f d2
        rw [hv] at e2
        simpa using e2
      refine ih (pre ++ [x], sa, sb, add .i64 i 1, some (i, (x.tag, ex), (y.tag, ey))) ⟨at_len (F.inc hi (by simp [ha] at hl; omega)) (by simp), by simp [ha], by simp [hb, hxy]⟩ (by simp)
  | some jj =>
    obtain ⟨j1, ⟨j2, j3⟩, ⟨j4, j5⟩⟩ := jj
    cbv
    match sa, sb, hlen, ha, hb with
    | [], [], _, ha, hb =>
      rw [F.lt_f hi la (by simp [ha])]; cbv
      rw [hQ1]; cbv
      rw [hQ]; cbv
      rw [← hr, hT]; simp [ha, hb]
    | x :: sa, y :: sb, _, ha, hb =>
      obtain ⟨ix, hix⟩ : ∃ y_, y_ = pre.length * 2 := ⟨_, rfl⟩
      obtain ⟨ex, hex⟩ : ∃ y_, y_ = row fI x.body := ⟨_, rfl⟩
      obtain ⟨ey, hey⟩ : ∃ y_, y_ = row fI y.body := ⟨_, rfl⟩
      have p0 : at' 2 ea i = some (ix, [.int .i64 x.tag, .row () ex]) := by rw [hix, hex]; exact F.get hi hea ha (fun _ => rfl) (by decide)
      have p1 : at' 2 eb i = some (ix, [.int .i64 y.tag, .row () ey]) := by rw [hix, hey]; exact F.get hi heb hb (fun _ => rfl) (by decide)
      obtain ⟨v, hv⟩ : ∃ y_, y_ = decide (x = y) := ⟨_, rfl⟩
      have hT' : T = (v && decide (sa = sb)) := by
        rw [hT, ha, hb, hv]; simp only [List.append_cancel_left_eq, List.cons.injEq]
        by_cases k1 : x = y <;> simp [k1]
      have c2 : o 291 [sExt x.tag ex (.sp 0 1), sExt y.tag ey (.sp 1 1)] = some ⟨[B v], [], none⟩ := by rw [ho, hv, hex, hey]; exact ok291 _ _ (w x (by rw [ha]; simp)) rfl rfl
      rw [F.lt_t hi la (by simp [ha])]; cbv
      rw [p0]; cbv
      rw [p1]; cbv
      rw [c2]; cbv
      refine both (fun d2 => ?_) (fun d2 => ?_) <;> rw [d2] <;> cbv
      · rw [hQ1]; cbv
        rw [hQ]; cbv
        rw [← hr, hT', F.not_t d2]; simp
      have hxy : x = y := by
        have e2 := F.not_f d2
        rw [hv] at e2
        simpa using e2
      refine ih (pre ++ [x], sa, sb, add .i64 i 1, some (i, (x.tag, ex), (y.tag, ey))) ⟨at_len (F.inc hi (by simp [ha] at hl; omega)) (by simp), by simp [ha], by simp [hb, hxy]⟩ (by simp)

/- impl.EqualExts -/
theorem ok273 (a b : List Ext) (hl : a.length ≤ 1099511627776) (w : ∀ y ∈ a, y.body.length ≤ 1099511627776) {f0 f1 : Fl} (h0 : inFl f0 = true) (h1 : inFl f1 = true) : fix Tb md 273 [R (row fExt a) f0, R (row fExt b) f1] = some ⟨[B (decide (a = b))], [], none⟩ := by
  obtain ⟨v, hv⟩ : ∃ y_, y_ = decide (a = b) := ⟨_, rfl⟩
  rw [← hv]
  generalize hr : (⟨_, [], none⟩ : Ret) = r
  obtain ⟨ea, hea⟩ : ∃ y_, y_ = row fExt a := ⟨_, rfl⟩
  obtain ⟨eb, heb⟩ : ∃ y_, y_ = row fExt b := ⟨_, rfl⟩
  rw [← hea, ← heb]
  refine fix_fn2 (fn := ir273) tb_273 rfl rfl (by decide) rfl ?_; intro Q hQ; simp only [shutArgs, shutS, List.map_cons, List.map_nil, ir273, shut_in h0, shut_in h1, List.head?_nil, reduceCtorEq, if_false, sExt, sHello, sAnswer, sEdit, sDeal, sBox, sDialed, sKnown]
  intro add sub mul arith eq ne lt le gt ge neg conv mn mx not beq len at' ln bd cut app allS isNil mks set o hP F ho
  have c1 : o 350 [R ea (.sp 0 0), R eb (.sp 1 0), ⟨.val, [⟨.fn 291 [], .sh⟩]⟩] = some ⟨[B v], [], none⟩ := by rw [ho, hv, hea, heb]; exact ok350 _ _ hl w rfl rfl
  cbv
  rw [c1]; cbv
  rw [hQ]; cbv
  exact congrArg some hr

/- impl.EqualHellos -/
theorem ok131 (a b : Hello) (hvv : a.versions.length ≤ 1099511627776) (hl : a.exts.length ≤ 1099511627776) (w : ∀ y ∈ a.exts, y.body.length ≤ 1099511627776) {f0 f1 g0 g1 : Fl} (q0 : inFl f0 = true) (q1 : inFl f1 = true) (p0 : inFl g0 = true) (p1 : inFl g1 = true) :
    fix Tb md 131 [sHello (row fI a.versions) (row fExt a.exts) f0 f1, sHello (row fI b.versions) (row fExt b.exts) g0 g1] = some ⟨[B (decide (a = b))], [], none⟩ := by
  obtain ⟨u, hu⟩ : ∃ y_, y_ = decide (a.versions = b.versions) := ⟨_, rfl⟩
  obtain ⟨v, hv⟩ : ∃ y_, y_ = decide (a.exts = b.exts) := ⟨_, rfl⟩
  rw [show decide (a = b) = (u && v) by rw [hu, hv]; simp only [Hello.eq_iff]; by_cases k1 : a.versions = b.versions <;> by_cases k2 : a.exts = b.exts <;> simp [k1, k2]]
  generalize hr : (⟨_, [], none⟩ : Ret) = r
  obtain ⟨d0, hd0⟩ : ∃ y_, y_ = row fI a.versions := ⟨_, rfl⟩
  obtain ⟨e0, he0⟩ : ∃ y_, y_ = row fI b.versions := ⟨_, rfl⟩
  obtain ⟨d1, hd1⟩ : ∃ y_, y_ = row fExt a.exts := ⟨_, rfl⟩
  obtain ⟨e1, he1⟩ : ∃ y_, y_ = row fExt b.exts := ⟨_, rfl⟩
  rw [← hd0, ← he0, ← hd1, ← he1]
  refine fix_fn2 (fn := ir131) tb_131 rfl rfl (by decide) rfl ?_; intro Q hQ; simp only [shutArgs, shutS, List.map_cons, List.map_nil, ir131, shut_in q0, shut_in q1, shut_in p0, shut_in p1, List.head?_nil, reduceCtorEq, if_false, sExt, sHello, sAnswer, sEdit, sDeal, sBox, sDialed, sKnown]
  intro add sub mul arith eq ne lt le gt ge neg conv mn mx not beq len at' ln bd cut app allS isNil mks set o hP F ho
  have c1 : o 229 [R d0 (.sp 0 0), R e0 (.sp 1 0)] = some ⟨[B u], [], none⟩ := by rw [ho, hu, hd0, he0]; exact ok229 _ _ hvv rfl rfl
  have c2 : o 273 [R d1 (.sp 0 0), R e1 (.sp 1 0)] = some ⟨[B v], [], none⟩ := by rw [ho, hv, hd1, he1]; exact ok273 _ _ hl w rfl rfl
  cbv
  rw [c1]; cbv
  refine both (fun d1 => ?_) (fun d1 => ?_) <;> rw [d1] <;> cbv
  · rw [c2]; cbv
    rw [hQ]; cbv
    rw [← hr, d1]; rfl
  · rw [hQ]; cbv
    rw [← hr, d1]; rfl

/- laws.eqIntS -/
theorem ok79 (a b : List Int) (hl : a.length ≤ 1099511627776) {f0 f1 : Fl} (h0 : inFl f0 = true) (h1 : inFl f1 = true) : fix Tb md 79 [R (row fI a) f0, R (row fI b) f1] = some ⟨[B (decide (a = b))], [], none⟩ := by
  refine fix_fn (fn := ir79) tb_79 rfl rfl (by decide) rfl ?_; simp only [shutArgs, shutS, List.map_cons, List.map_nil, ir79, shut_in h0, shut_in h1, List.head?_nil, reduceCtorEq, if_false, sExt, sHello, sAnswer, sEdit, sDeal, sBox, sDialed, sKnown]
  generalize hr : (⟨_, [], none⟩ : Ret) = r
  obtain ⟨ea, hea⟩ : ∃ y_, y_ = row fI a := ⟨_, rfl⟩
  obtain ⟨eb, heb⟩ : ∃ y_, y_ = row fI b := ⟨_, rfl⟩
  rw [← hea, ← heb]
  intro add sub mul arith eq ne lt le gt ge neg conv mn mx not beq len at' ln bd cut app allS isNil mks set o hP F ho
  have la := F.len_at hea
  have lb := F.len_at heb
  cbv
  by_cases hab : a.length = b.length
  · rw [F.ne_f (by unfold At at la lb; omega)]; cbv
    refine loop_ind hP (σ := List Int × List Int × List Int × Int) (fun s => [(0, R ea .sh), (1, R eb .sh), (4, B false), (5, I s.2.2.2)]) (fun s => At s.2.2.2 s.1.length ∧ a = s.1 ++ s.2.1 ∧ b = s.1 ++ s.2.2.1) (fun s => s.2.1.length) ([], a, b, 0) rfl ⟨rfl, rfl, rfl⟩ ?_
    rintro ⟨pre, sa, sb, i⟩ ⟨hi, ha, hb⟩ ih
    simp only at hi ha hb ih
    cbv
    have hlen : sa.length = sb.length := by simp [ha, hb] at hab; exact hab
    match sa, sb, hlen, ha, hb with
    | [], [], _, ha, hb =>
      rw [F.lt_f hi la (by simp [ha])]; cbv
      rw [← hr]; simp [ha, hb]
    | x :: sa, y :: sb, _, ha, hb =>
      rw [F.lt_t hi la (by simp [ha])]; cbv
      obtain ⟨ix, hix⟩ : ∃ y_, y_ = pre.length * 1 := ⟨_, rfl⟩
      rw [show at' 1 ea i = some (ix, [.int .i64 x]) by rw [hix]; exact F.get hi hea ha (fun _ => rfl) (by decide)]; cbv
      rw [show at' 1 eb i = some (ix, [.int .i64 y]) by rw [hix]; exact F.get hi heb hb (fun _ => rfl) (by decide)]; cbv
      by_cases hxy : x = y
      · rw [F.ne_f hxy]; cbv
        refine ih (pre ++ [x], sa, sb, add .i64 i 1) ⟨at_len (F.inc hi (by simp [ha] at hl; omega)) (by simp), by simp [ha], by simp [hb, hxy]⟩ (by simp)
      · rw [F.ne_t hxy]; cbv
        rw [← hr]; simp [ha, hb, hxy]
  · rw [F.ne_t (by unfold At at la lb; omega)]; cbv
    rw [← hr]
    simp
    intro e; exact hab (by rw [e])
theorem ok79t (a : List Int) (hl : a.length ≤ 1099511627776) {f0 f1 : Fl} (h0 : inFl f0 = true) (h1 : inFl f1 = true) : fix Tb md 79 [R (row fI a) f0, R (row fI a) f1] = some ⟨[B true], [], none⟩ := by simpa using ok79 a a hl h0 h1

/- laws.eqExt -/
theorem ok321 (x : Ext) (w : x.Mid) {f0 : Fl} (q0 : inFl f0 = true) {g0 : Fl} (p0 : inFl g0 = true) :
    fix Tb md 321 [sExt x.tag (row fI x.body) f0, sExt x.tag (row fI x.body) g0] = some ⟨[B true], [], none⟩ := by
  refine fix_fn (fn := ir321) tb_321 rfl rfl (by decide) rfl ?_; simp only [shutArgs, shutS, List.map_cons, List.map_nil, ir321, shut_in q0, shut_in p0, List.head?_nil, reduceCtorEq, if_false, sExt, sHello, sAnswer, sEdit, sDeal, sBox, sDialed, sKnown]
  generalize hr : (⟨_, [], none⟩ : Ret) = r
  obtain ⟨e1, he1⟩ : ∃ y_, y_ = row fI x.body := ⟨_, rfl⟩
  rw [← he1]
  unfold Ext.Mid at w
  intro add sub mul arith eq ne lt le gt ge neg conv mn mx not beq len at' ln bd cut app allS isNil mks set o hP F ho
  have c1 : o 79 [R e1 (.sp 0 0), R e1 (.sp 1 0)] = some ⟨[B true], [], none⟩ := by rw [ho, he1]; exact ok79t _ (by have := w; omega) rfl rfl
  cbv
  rw [F.ne_f rfl]; cbv
  rw [c1]; cbv
  rw [show not true = false by rw [F.not]; rfl]; cbv
  exact congrArg some hr

/- laws.eqExtS -/
theorem ok200 (l : List (Ext)) (w : l.length ≤ 1073741824 ∧ ∀ y ∈ l, y.Mid) {f0 f1 : Fl} (q0 : inFl f0 = true) (q1 : inFl f1 = true) :
    fix Tb md 200 [R (row fExt l) f0, R (row fExt l) f1] = some ⟨[B true], [], none⟩ := by
  have w1 := w.1
  refine fix_fn (fn := ir200) tb_200 rfl rfl (by decide) rfl ?_; simp only [shutArgs, shutS, List.map_cons, List.map_nil, ir200, shut_in q0, shut_in q1, List.head?_nil, reduceCtorEq, if_false, sExt, sHello, sAnswer, sEdit, sDeal, sBox, sDialed, sKnown]
  generalize hr : (⟨_, [], none⟩ : Ret) = r
  obtain ⟨ea, hea⟩ : ∃ y_, y_ = row fExt l := ⟨_, rfl⟩
  rw [← hea]
  intro add sub mul arith eq ne lt le gt ge neg conv mn mx not beq len at' ln bd cut app allS isNil mks set o hP F ho
  have la := F.len_at hea
  cbv
  rw [F.ne_f rfl]; cbv
  refine loop_ind hP (σ := List (Ext) × List (Ext) × Int) (fun s => [(0, R ea .sh), (1, R ea .sh), (4, B false), (5, I s.2.2)])
    (fun s => At s.2.2 s.2.1.length ∧ l = s.2.1 ++ s.1) (fun s => s.1.length) (l, [], 0) rfl ⟨rfl, rfl⟩ ?_
  rintro ⟨suf, pre, i⟩ ⟨hi, hl'⟩ ih
  simp only at hi hl' ih
  cbv
  cases suf with
  | nil =>
    rw [F.lt_f hi la (by simp [hl'])]; cbv
    exact congrArg some hr
  | cons x suf =>
    rw [F.lt_t hi la (by simp [hl'])]; cbv
    obtain ⟨e1, he1⟩ : ∃ y_, y_ = row fI x.body := ⟨_, rfl⟩
    obtain ⟨ix, hix⟩ : ∃ y_, y_ = pre.length * 2 := ⟨_, rfl⟩
    have a1 : at' 2 ea i = some (ix, [.int .i64 x.tag, .row () e1]) := by rw [hix, he1]; exact F.get hi hea hl' (fun _ => rfl) (by decide)
    rw [a1]; cbv
    try (rw [a1]; cbv)
    have c1 : o 321 [sExt x.tag e1 (.sp 0 1), sExt x.tag e1 (.sp 1 1)] = some ⟨[B true], [], none⟩ := by rw [ho, he1]; exact ok321 x (w.2 x (by rw [hl']; simp)) rfl rfl
    rw [c1]; cbv
    rw [show not true = false by rw [F.not]; rfl]; cbv
    refine ih (suf, pre ++ [x], add .i64 i 1) ⟨at_len (F.inc hi (by simp [hl'] at w1; omega)) (by simp), by simp [hl']⟩ (by simp)

/- laws.eqHello -/
theorem ok78 (x : Hello) (w : x.Mid) {f0 f1 : Fl} (q0 : inFl f0 = true) (q1 : inFl f1 = true) {g0 g1 : Fl} (p0 : inFl g0 = true) (p1 : inFl g1 = true) :
    fix Tb md 78 [sHello (row fI x.versions) (row fExt x.exts) f0 f1, sHello (row fI x.versions) (row fExt x.exts) g0 g1] = some ⟨[B true], [], none⟩ := by
  refine fix_fn (fn := ir78) tb_78 rfl rfl (by decide) rfl ?_; simp only [shutArgs, shutS, List.map_cons, List.map_nil, ir78, shut_in q0, shut_in q1, shut_in p0, shut_in p1, List.head?_nil, reduceCtorEq, if_false, sExt, sHello, sAnswer, sEdit, sDeal, sBox, sDialed, sKnown]
  generalize hr : (⟨_, [], none⟩ : Ret) = r
  obtain ⟨e1, he1⟩ : ∃ y_, y_ = row fI x.versions := ⟨_, rfl⟩
  obtain ⟨e2, he2⟩ : ∃ y_, y_ = row fExt x.exts := ⟨_, rfl⟩
  rw [← he1, ← he2]
  unfold Hello.Mid at w
  intro add sub mul arith eq ne lt le gt ge neg conv mn mx not beq len at' ln bd cut app allS isNil mks set o hP F ho
  have c1 : o 79 [R e1 (.sp 0 0), R e1 (.sp 1 0)] = some ⟨[B true], [], none⟩ := by rw [ho, he1]; exact ok79t _ (by have := w.1; omega) rfl rfl
  have c2 : o 200 [R e2 (.sp 0 0), R e2 (.sp 1 0)] = some ⟨[B true], [], none⟩ := by rw [ho, he2]; exact ok200 _ w.2 rfl rfl
  cbv
  rw [c1]; cbv
  rw [show not true = false by rw [F.not]; rfl]; cbv
  rw [c2]; cbv
  rw [show not true = false by rw [F.not]; rfl]; cbv
  exact congrArg some hr

/- laws.szIntS -/
theorem ok227 {α : Type} (f : α → List V) (l : List α) (left : Int) (h : l.length ≤ 9223372036854775807) (h1 : 0 ≤ left) (h2 : left ≤ 1048576) {f0 : Fl} (h0 : inFl f0 = true) : fix Tb md 227 [R (row f l) f0, I left] = some ⟨[I (sz1 l.length left)], [], none⟩ := by
  by_cases hl : left - l.length < 0
  · rw [show sz1 l.length left = -1 by unfold sz1; rw [if_pos hl]]
    refine fix_fn (fn := ir227) tb_227 rfl rfl (by decide) rfl ?_; simp only [shutArgs, shutS, List.map_cons, List.map_nil, ir227, shut_in h0, List.head?_nil, reduceCtorEq, if_false, sExt, sHello, sAnswer, sEdit, sDeal, sBox, sDialed, sKnown]
    generalize hr : (⟨_, [], none⟩ : Ret) = r
    obtain ⟨ea, hea⟩ : ∃ y_, y_ = row f l := ⟨_, rfl⟩
    rw [← hea]
    intro add sub mul arith eq ne lt le gt ge neg conv mn mx not beq len at' ln bd cut app allS isNil mks set o hP F ho
    have le := F.len_at hea
    unfold At at le
    have hs : lt (sub .i64 left (len ea)) 0 = true := by rw [F.lt, F.sub, le, wrap64 (by omega) (by omega)]; simp; omega
    cbv
    rw [hs]
    cbv
    exact congrArg some hr
  · rw [show sz1 l.length left = left - l.length by unfold sz1; rw [if_neg hl]]
    refine fix_fn (fn := ir227) tb_227 rfl rfl (by decide) rfl ?_; simp only [shutArgs, shutS, List.map_cons, List.map_nil, ir227, shut_in h0, List.head?_nil, reduceCtorEq, if_false, sExt, sHello, sAnswer, sEdit, sDeal, sBox, sDialed, sKnown]
    obtain ⟨v, hv⟩ : ∃ y_, y_ = left - l.length := ⟨_, rfl⟩
    rw [← hv]
    generalize hr : (⟨_, [], none⟩ : Ret) = r
    obtain ⟨ea, hea⟩ : ∃ y_, y_ = row f l := ⟨_, rfl⟩
    rw [← hea]
    intro add sub mul arith eq ne lt le gt ge neg conv mn mx not beq len at' ln bd cut app allS isNil mks set o hP F ho
    have le := F.len_at hea
    unfold At at le
    have e1 : sub .i64 left (len ea) = v := by rw [F.sub, le, wrap64 (by omega) (by omega), hv]
    have hs : lt v 0 = false := by rw [F.lt, hv]; simp; omega
    cbv
    rw [e1, hs]
    cbv
    exact congrArg some hr

/- laws.szExt -/
theorem ok319 (x : Ext) (left : Int) (w : x.Fits) (h1 : 0 ≤ left) (h2 : left ≤ 1048576) {f0 : Fl} (q0 : inFl f0 = true) :
    fix Tb md 319 [sExt x.tag (row fI x.body) f0, I left] = some ⟨[I (szExt x left)], [], none⟩ := by
  refine fix_fn (fn := ir319) tb_319 rfl rfl (by decide) rfl ?_; simp only [shutArgs, shutS, List.map_cons, List.map_nil, ir319, shut_in q0, List.head?_nil, reduceCtorEq, if_false, sExt, sHello, sAnswer, sEdit, sDeal, sBox, sDialed, sKnown]
  obtain ⟨v1, hv1⟩ : ∃ y_, y_ = sz1 x.body.length left := ⟨_, rfl⟩
  rw [show szExt x left = v1 by rw [hv1]; rfl]
  generalize hr : (⟨_, [], none⟩ : Ret) = r
  obtain ⟨e1, he1⟩ : ∃ y_, y_ = row fI x.body := ⟨_, rfl⟩
  rw [← he1]
  have g1 : v1 ≤ 1048576 := by rw [hv1]; exact (Sz.of1 x.body.length).up h2
  have l1 : -1 ≤ v1 := by rw [hv1]; exact (Sz.of1 x.body.length).lo _ h2
  unfold Ext.Fits at w
  intro add sub mul arith eq ne lt le gt ge neg conv mn mx not beq len at' ln bd cut app allS isNil mks set o hP F ho
  have c1 : o 227 [R e1 (.sp 0 0), I left] = some ⟨[I v1], [], none⟩ := by rw [ho, hv1, he1]; exact ok227 fI _ _ w.2.1 h1 h2 rfl
  cbv
  rw [c1]; cbv
  refine both (fun d1 => ?_) (fun d1 => ?_) <;> rw [d1] <;> cbv
  · clear hP c1 ho; simp only [F.lt, decide_eq_true_eq] at d1; clear F; rw [← hr, show v1 = -1 by omega]
  exact congrArg some hr

/- laws.szExtS -/
theorem ok197 (l : List Ext) (left : Int) (w : l.length ≤ 9223372036854775807 ∧ ∀ y ∈ l, y.Fits) (h1 : 0 ≤ left) (h2 : left ≤ 1048576) {f0 : Fl} (q0 : inFl f0 = true) :
    fix Tb md 197 [R (row fExt l) f0, I left] = some ⟨[I (szL szExt l left)], [], none⟩ := by
  have w1 := w.1
  by_cases hl : left - l.length < 0
  · rw [show szL szExt l left = -1 from szF_neg szExt_Sz l _ (by unfold sz1; rw [if_pos hl])]
    refine fix_fn (fn := ir197) tb_197 rfl rfl (by decide) rfl ?_; simp only [shutArgs, shutS, List.map_cons, List.map_nil, ir197, shut_in q0, List.head?_nil, reduceCtorEq, if_false, sExt, sHello, sAnswer, sEdit, sDeal, sBox, sDialed, sKnown]
    generalize hr : (⟨_, [], none⟩ : Ret) = r
    obtain ⟨ea, hea⟩ : ∃ y_, y_ = row fExt l := ⟨_, rfl⟩
    rw [← hea]
    intro add sub mul arith eq ne lt le gt ge neg conv mn mx not beq len at' ln bd cut app allS isNil mks set o hP F ho
    have le := F.len_at hea
    unfold At at le
    have hs : lt (sub .i64 left (len ea)) 0 = true := by rw [F.lt, F.sub, le, wrap64 (by omega) (by omega)]; simp; omega
    cbv
    rw [hs]
    cbv
    exact congrArg some hr
  · have hT : szL szExt l left = l.foldl (fun a x => szExt x a) (left - l.length) := by unfold szL sz1; rw [if_neg hl]
    rw [hT]
    refine fix_fn (fn := ir197) tb_197 rfl rfl (by decide) rfl ?_; simp only [shutArgs, shutS, List.map_cons, List.map_nil, ir197, shut_in q0, List.head?_nil, reduceCtorEq, if_false, sExt, sHello, sAnswer, sEdit, sDeal, sBox, sDialed, sKnown]
    obtain ⟨v, hv⟩ : ∃ y_, y_ = left - l.length := ⟨_, rfl⟩
    rw [← hv]
    have u3 : 0 ≤ v := by omega
    have u4 : v ≤ 1048576 := by omega
    have u5 : l.length ≤ 1048576 := by omega
    obtain ⟨T, hT⟩ : ∃ y_, y_ = l.foldl (fun a x => szExt x a) v := ⟨_, rfl⟩
    rw [← hT]
    generalize hr : (⟨_, [], none⟩ : Ret) = r
    obtain ⟨ea, hea⟩ : ∃ y_, y_ = row fExt l := ⟨_, rfl⟩
    rw [← hea]
    intro add sub mul arith eq ne lt le gt ge neg conv mn mx not beq len at' ln bd cut app allS isNil mks set o hP F ho
    have le := F.len_at hea
    have e1 : sub .i64 left (len ea) = v := by unfold At at le; rw [F.sub, le, wrap64 (by omega) (by omega), hv]
    have hs : lt v 0 = false := by rw [F.lt, hv]; simp; omega
    cbv
    rw [e1, hs]
    cbv
    refine loop_ind hP (σ := List (Ext) × List (Ext) × Int × Int) (fun s => [(0, R ea .sh), (1, I s.2.2.1), (4, I 0), (5, I s.2.2.2)])
      (fun s => At s.2.2.2 s.2.1.length ∧ l = s.2.1 ++ s.1 ∧ 0 ≤ s.2.2.1 ∧ s.2.2.1 ≤ 1048576 ∧ s.1.foldl (fun a x => szExt x a) s.2.2.1 = T) (fun s => s.1.length) (l, [], v, 0) rfl ⟨rfl, rfl, u3, u4, hT.symm⟩ ?_
    rintro ⟨suf, pre, a, i⟩ ⟨hi, hl', ha0, ha1, hf⟩ ih
    simp only at hi hl' ha0 ha1 hf ih
    cbv
    cases suf with
    | nil =>
      rw [F.lt_f hi le (by simp [hl'])]; cbv
      simp only [List.foldl_nil] at hf
      rw [← hr, hf]
    | cons x suf =>
      rw [F.lt_t hi le (by simp [hl'])]; cbv
      rw [List.foldl_cons] at hf
      obtain ⟨e1, he1⟩ : ∃ y_, y_ = row fI x.body := ⟨_, rfl⟩
      obtain ⟨ix, hix⟩ : ∃ y_, y_ = pre.length * 2 := ⟨_, rfl⟩
      rw [show at' 2 ea i = some (ix, [.int .i64 x.tag, .row () e1]) by rw [hix, he1]; exact F.get hi hea hl' (fun _ => rfl) (by decide)]; cbv
      obtain ⟨a', ha'⟩ : ∃ y_, y_ = szExt x a := ⟨_, rfl⟩
      rw [← ha'] at hf
      have u1 : a' ≤ 1048576 := by rw [ha']; exact (szExt_Sz x).up ha1
      have u2 : -1 ≤ a' := by rw [ha']; exact (szExt_Sz x).lo _ ha1
      have c1 : o 319 [sExt x.tag e1 (.sp 0 1), I a] = some ⟨[I a'], [], none⟩ := by rw [ho, ha', he1]; exact ok319 x a (w.2 x (by rw [hl']; simp)) ha0 ha1 rfl
      rw [c1]; cbv
      refine both (fun c => ?_) (fun c => ?_) <;> rw [c] <;> cbv
      · simp only [F.lt, decide_eq_true_eq] at c
        rw [← hr, ← hf, szF_neg szExt_Sz suf a' (by omega)]
      · simp only [F.lt, decide_eq_false_iff_not] at c
        refine ih (suf, pre ++ [x], a', add .i64 i 1) ⟨at_len (F.inc hi (by simp [hl'] at u5; omega)) (by simp), by simp [hl'], by simp only; omega, u1, hf⟩ (by simp)

/- laws.szHello -/
theorem ok83 (x : Hello) (left : Int) (w : x.Fits) (h1 : 0 ≤ left) (h2 : left ≤ 1048576) {f0 f1 : Fl} (q0 : inFl f0 = true) (q1 : inFl f1 = true) :
    fix Tb md 83 [sHello (row fI x.versions) (row fExt x.exts) f0 f1, I left] = some ⟨[I (szHello x left)], [], none⟩ := by
  refine fix_fn (fn := ir83) tb_83 rfl rfl (by decide) rfl ?_; simp only [shutArgs, shutS, List.map_cons, List.map_nil, ir83, shut_in q0, shut_in q1, List.head?_nil, reduceCtorEq, if_false, sExt, sHello, sAnswer, sEdit, sDeal, sBox, sDialed, sKnown]
  obtain ⟨v1, hv1⟩ : ∃ y_, y_ = sz1 x.versions.length left := ⟨_, rfl⟩
  obtain ⟨v2, hv2⟩ : ∃ y_, y_ = szL szExt x.exts v1 := ⟨_, rfl⟩
  rw [show szHello x left = v2 by rw [hv2, hv1]; rfl]
  generalize hr : (⟨_, [], none⟩ : Ret) = r
  obtain ⟨e1, he1⟩ : ∃ y_, y_ = row fI x.versions := ⟨_, rfl⟩
  obtain ⟨e2, he2⟩ : ∃ y_, y_ = row fExt x.exts := ⟨_, rfl⟩
  rw [← he1, ← he2]
  have g1 : v1 ≤ 1048576 := by rw [hv1]; exact (Sz.of1 x.versions.length).up h2
  have l1 : -1 ≤ v1 := by rw [hv1]; exact (Sz.of1 x.versions.length).lo _ h2
  have g2 : v2 ≤ 1048576 := by rw [hv2]; exact (Sz.list szExt_Sz x.exts).up g1
  have l2 : -1 ≤ v2 := by rw [hv2]; exact (Sz.list szExt_Sz x.exts).lo _ g1
  have n2 : v1 < 0 → v2 = -1 := fun q => by rw [hv2]; exact (Sz.list szExt_Sz x.exts).neg _ q
  unfold Hello.Fits at w
  intro add sub mul arith eq ne lt le gt ge neg conv mn mx not beq len at' ln bd cut app allS isNil mks set o hP F ho
  have c1 : o 227 [R e1 (.sp 0 0), I left] = some ⟨[I v1], [], none⟩ := by rw [ho, hv1, he1]; exact ok227 fI _ _ w.1.1 h1 h2 rfl
  have c2 : 0 ≤ v1 → o 197 [R e2 (.sp 0 0), I v1] = some ⟨[I v2], [], none⟩ := by intro q; rw [ho, hv2, he2]; exact ok197 _ _ w.2 q g1 rfl
  cbv
  rw [c1]; cbv
  refine both (fun d1 => ?_) (fun d1 => ?_) <;> rw [d1] <;> cbv
  · clear hP c1 c2 ho; simp only [F.lt, decide_eq_true_eq] at d1; clear F; rw [← hr, show v2 = -1 by omega]
  rw [c2 (by simp only [F.lt, decide_eq_false_iff_not] at d1; omega)]; cbv
  refine both (fun d2 => ?_) (fun d2 => ?_) <;> rw [d2] <;> cbv
  · clear hP c1 c2 ho; simp only [F.lt, decide_eq_true_eq] at d2; clear F; rw [← hr, show v2 = -1 by omega]
  exact congrArg some hr

/- laws.toIntS -/
theorem ok76 (l : List Int) (hl : l.length ≤ 1099511627776) {f0 : Fl} (h0 : inFl f0 = true) : fix Tb md 76 [R (row fI l) f0] = some ⟨[R (row fI l) (.ow false)], [], none⟩ := by
  refine fix_fn (fn := ir76) tb_76 rfl rfl (by decide) rfl ?_; simp only [shutArgs, shutS, List.map_cons, List.map_nil, ir76, shut_in h0, List.head?_nil, reduceCtorEq, if_false, sExt, sHello, sAnswer, sEdit, sDeal, sBox, sDialed, sKnown]
  generalize hr : (⟨_, [], none⟩ : Ret) = r
  obtain ⟨e1, he1⟩ : ∃ y_, y_ = row fI l := ⟨_, rfl⟩
  rw [← he1] at hr ⊢
  intro add sub mul arith eq ne lt le gt ge neg conv mn mx not beq len at' ln bd cut app allS isNil mks set o hP F ho
  have la := F.len_at he1
  cbv
  obtain ⟨e2, he2⟩ : ∃ y_, y_ = row fI (List.replicate l.length 0) := ⟨_, rfl⟩
  rw [show mks [.int .i64 0] (len e1) (len e1) = some e2 by rw [F.mks, show len e1 = _ from la, he2]; exact row_mk (f := fI) (a := 0) rfl (by simp [fI]) hl]; cbv
  refine loop_ind hP (σ := List Int × List Int × List (List V) × Int) (fun s => [(0, R e1 .sh), (2, R [] .nl), (3, R s.2.2.1 (.ow false)), (4, I s.2.2.2)])
    (fun s => At s.2.2.2 s.2.1.length ∧ l = s.2.1 ++ s.1 ∧ s.2.2.1 = row fI (s.2.1 ++ List.replicate s.1.length 0)) (fun s => s.1.length) (l, [], e2, 0) rfl ⟨rfl, rfl, by simpa using he2⟩ ?_
  rintro ⟨suf, pre, eo, i⟩ ⟨hi, hl', heo⟩ ih
  simp only at hi hl' heo ih
  cbv
  cases suf with
  | nil =>
    rw [F.lt_f hi la (by simp [hl'])]; cbv
    rw [← hr, heo, he1, hl']; simp
  | cons x suf =>
    rw [F.lt_t hi la (by simp [hl'])]; cbv
    obtain ⟨ix, hix⟩ : ∃ y_, y_ = pre.length * 1 := ⟨_, rfl⟩
    rw [show at' 1 e1 i = some (ix, [.int .i64 x]) by rw [hix]; exact F.get hi he1 hl' (fun _ => rfl) (by decide)]; cbv
    rw [show at' 1 eo i = some (ix, [.int .i64 0]) by rw [hix]; exact F.get hi heo rfl (fun _ => rfl) (by decide)]; cbv
    obtain ⟨eo', heo'⟩ : ∃ y_, y_ = row fI (pre ++ x :: List.replicate suf.length 0) := ⟨_, rfl⟩
    rw [show set eo ix [.int .i64 x] = some eo' by rw [F.set, heo, hix, heo']; exact set_one (fun _ => rfl) rfl]; cbv
    refine ih (suf, pre ++ [x], eo', add .i64 i 1) ⟨at_len (F.inc hi (by simp [hl'] at hl; omega)) (by simp), by simp [hl'], by simp [heo']⟩ (by simp)

/- laws.toExt -/
theorem ok320 (x : Ext) (w : x.Mid) {f0 : Fl} (q0 : inFl f0 = true) :
    fix Tb md 320 [sExt x.tag (row fI x.body) f0] = some ⟨[sExt x.tag (row fI x.body) (.ow false)], [], none⟩ := by
  refine fix_fn (fn := ir320) tb_320 rfl rfl (by decide) rfl ?_; simp only [shutArgs, shutS, List.map_cons, List.map_nil, ir320, shut_in q0, List.head?_nil, reduceCtorEq, if_false, sExt, sHello, sAnswer, sEdit, sDeal, sBox, sDialed, sKnown]
  generalize hr : (⟨_, [], none⟩ : Ret) = r
  obtain ⟨e1, he1⟩ : ∃ y_, y_ = row fI x.body := ⟨_, rfl⟩
  rw [← he1] at hr ⊢
  unfold Ext.Mid at w
  intro add sub mul arith eq ne lt le gt ge neg conv mn mx not beq len at' ln bd cut app allS isNil mks set o hP F ho
  have c1 : o 76 [R e1 (.sp 0 0)] = some ⟨[R e1 (.ow false)], [], none⟩ := by rw [ho, he1]; exact ok76 _ (by have := w; omega) rfl
  cbv
  rw [c1]; cbv
  exact congrArg some hr

/- laws.toExtS -/
theorem ok199 (l : List (Ext)) (w : l.length ≤ 1073741824 ∧ ∀ y ∈ l, y.Mid) {f0 : Fl} (q0 : inFl f0 = true) :
    fix Tb md 199 [R (row fExt l) f0] = some ⟨[R (row fExt l) (.ow false)], [], none⟩ := by
  have w1 := w.1
  refine fix_fn (fn := ir199) tb_199 rfl rfl (by decide) rfl ?_; simp only [shutArgs, shutS, List.map_cons, List.map_nil, ir199, shut_in q0, List.head?_nil, reduceCtorEq, if_false, sExt, sHello, sAnswer, sEdit, sDeal, sBox, sDialed, sKnown]
  generalize hr : (⟨_, [], none⟩ : Ret) = r
  obtain ⟨ea, hea⟩ : ∃ y_, y_ = row fExt l := ⟨_, rfl⟩
  rw [← hea] at hr ⊢
  intro add sub mul arith eq ne lt le gt ge neg conv mn mx not beq len at' ln bd cut app allS isNil mks set o hP F ho
  have la := F.len_at hea
  cbv
  obtain ⟨e0, he0⟩ : ∃ y_, y_ = row fExt (List.replicate l.length (⟨0, []⟩ : Ext)) := ⟨_, rfl⟩
  rw [show mks [.int .i64 0, .row () []] (len ea) (len ea) = some e0 by rw [F.mks, show len ea = _ from la, he0]; exact row_mk (f := fExt) (a := (⟨0, []⟩ : Ext)) rfl (by simp [fExt]) (show l.length ≤ 1099511627776 by omega)]; cbv
  refine loop_ind hP (σ := List (Ext) × List (Ext) × List (List V) × Int) (fun s => [(0, R ea .sh), (2, R [] .nl), (3, R s.2.2.1 (.ow false)), (4, I s.2.2.2)])
    (fun s => At s.2.2.2 s.2.1.length ∧ l = s.2.1 ++ s.1 ∧ s.2.2.1 = row fExt (s.2.1 ++ List.replicate s.1.length (⟨0, []⟩ : Ext))) (fun s => s.1.length) (l, [], e0, 0) rfl ⟨rfl, rfl, by simpa using he0⟩ ?_
  rintro ⟨suf, pre, eo, i⟩ ⟨hi, hl', heo⟩ ih
  simp only at hi hl' heo ih
  cbv
  cases suf with
  | nil =>
    rw [F.lt_f hi la (by simp [hl'])]; cbv
    rw [← hr, heo, hea, hl']; simp
  | cons x suf =>
    rw [F.lt_t hi la (by simp [hl'])]; cbv
    obtain ⟨e1, he1⟩ : ∃ y_, y_ = row fI x.body := ⟨_, rfl⟩
    obtain ⟨ix, hix⟩ : ∃ y_, y_ = pre.length * 2 := ⟨_, rfl⟩
    rw [show at' 2 ea i = some (ix, [.int .i64 x.tag, .row () e1]) by rw [hix, he1]; exact F.get hi hea hl' (fun _ => rfl) (by decide)]; cbv
    have c1 : o 320 [sExt x.tag e1 (.sp 0 1)] = some ⟨[sExt x.tag e1 (.ow false)], [], none⟩ := by rw [ho, he1]; exact ok320 x (w.2 x (by rw [hl']; simp)) rfl
    rw [c1]; cbv
    rw [show at' 2 eo i = some (ix, [.int .i64 0, .row () []]) by rw [hix]; exact F.get hi heo rfl (fun _ => rfl) (by decide)]; cbv
    obtain ⟨eo', heo'⟩ : ∃ y_, y_ = row fExt (pre ++ x :: List.replicate suf.length (⟨0, []⟩ : Ext)) := ⟨_, rfl⟩
    rw [show set eo ix [.int .i64 x.tag, .row () e1] = some eo' by rw [F.set, heo, hix, heo', he1]; exact set_all (fun _ => rfl) rfl]; cbv
    refine ih (suf, pre ++ [x], eo', add .i64 i 1) ⟨at_len (F.inc hi (by simp [hl'] at w1; omega)) (by simp), by simp [hl'], by simp [heo']⟩ (by simp)

/- laws.toHello -/
theorem ok85 (x : Hello) (w : x.Mid) {f0 f1 : Fl} (q0 : inFl f0 = true) (q1 : inFl f1 = true) :
    fix Tb md 85 [sHello (row fI x.versions) (row fExt x.exts) f0 f1] = some ⟨[sHello (row fI x.versions) (row fExt x.exts) (.ow false) (.ow false)], [], none⟩ := by
  refine fix_fn (fn := ir85) tb_85 rfl rfl (by decide) rfl ?_; simp only [shutArgs, shutS, List.map_cons, List.map_nil, ir85, shut_in q0, shut_in q1, List.head?_nil, reduceCtorEq, if_false, sExt, sHello, sAnswer, sEdit, sDeal, sBox, sDialed, sKnown]
  generalize hr : (⟨_, [], none⟩ : Ret) = r
  obtain ⟨e1, he1⟩ : ∃ y_, y_ = row fI x.versions := ⟨_, rfl⟩
  obtain ⟨e2, he2⟩ : ∃ y_, y_ = row fExt x.exts := ⟨_, rfl⟩
  rw [← he1, ← he2] at hr ⊢
  unfold Hello.Mid at w
  intro add sub mul arith eq ne lt le gt ge neg conv mn mx not beq len at' ln bd cut app allS isNil mks set o hP F ho
  have c1 : o 76 [R e1 (.sp 0 0)] = some ⟨[R e1 (.ow false)], [], none⟩ := by rw [ho, he1]; exact ok76 _ (by have := w.1; omega) rfl
  have c2 : o 199 [R e2 (.sp 0 0)] = some ⟨[R e2 (.ow false)], [], none⟩ := by rw [ho, he2]; exact ok199 _ w.2 rfl
  cbv
  rw [c1]; cbv
  rw [c2]; cbv
  exact congrArg some hr

/- laws.FnExactEqualHellos -/
theorem law19 (a : Hello) (wa : a.Fits) (b : Hello) (wb : b.Fits) :
    fix Tb md 19 [sHello (row fI a.versions) (row fExt a.exts) (.sp 0 0) (.sp 0 1), sHello (row fI b.versions) (row fExt b.exts) (.sp 1 0) (.sp 1 1)] = some ⟨[B true], [], none⟩ := by
  refine fix_fn (fn := ir19) tb_19 rfl rfl (by decide) rfl ?_; simp only [shutArgs, shutS, List.map_cons, List.map_nil, ir19, List.head?_nil, reduceCtorEq, if_false, sExt, sHello, sAnswer, sEdit, sDeal, sBox, sDialed, sKnown, shut_in (f := .sp 0 0) rfl, shut_in (f := .sp 0 1) rfl, shut_in (f := .sp 1 0) rfl, shut_in (f := .sp 1 1) rfl]
  generalize hr : (⟨_, [], none⟩ : Ret) = r
  obtain ⟨e1, he1⟩ : ∃ y_, y_ = row fI a.versions := ⟨_, rfl⟩
  obtain ⟨e2, he2⟩ : ∃ y_, y_ = row fExt a.exts := ⟨_, rfl⟩
  obtain ⟨e3, he3⟩ : ∃ y_, y_ = row fI b.versions := ⟨_, rfl⟩
  obtain ⟨e4, he4⟩ : ∃ y_, y_ = row fExt b.exts := ⟨_, rfl⟩
  rw [← he1, ← he2, ← he3, ← he4]
  obtain ⟨v1, hv1⟩ : ∃ y_, y_ = szHello a 1048576 := ⟨_, rfl⟩
  have u1 : v1 ≤ 1048576 := by rw [hv1]; exact (szHello_Sz a).up (by decide)
  have s1 := fun q : 0 ≤ v1 => (szHello_Sz a).ok 1048576 (by decide) (hv1 ▸ q)
  obtain ⟨v2, hv2⟩ : ∃ y_, y_ = szHello b v1 := ⟨_, rfl⟩
  have u2 : v2 ≤ 1048576 := by rw [hv2]; exact (szHello_Sz b).up u1
  have s2 := fun q : 0 ≤ v2 => (szHello_Sz b).ok v1 u1 (hv2 ▸ q)
  obtain ⟨w, hw⟩ : ∃ y_, y_ = decide (a = b) := ⟨_, rfl⟩
  intro add sub mul arith eq ne lt le gt ge neg conv mn mx not beq len at' ln bd cut app allS isNil mks set o hP F ho
  have b1 : o 83 [sHello e1 e2 (.sp 0 0) (.sp 0 1), I 1048576] = some ⟨[I v1], [], none⟩ := by rw [ho, hv1, he1, he2]; exact ok83 a _ wa (by decide) (by decide) rfl rfl 
  have b2 : 0 ≤ v1 → o 83 [sHello e3 e4 (.sp 0 0) (.sp 0 1), I v1] = some ⟨[I v2], [], none⟩ := by intro q; rw [ho, hv2, he3, he4]; exact ok83 b _ wb q u1 rfl rfl 
  cbv
  rw [b1]; cbv
  refine both (fun d1 => ?_) (fun d1 => ?_) <;> rw [d1] <;> cbv
  · exact congrArg some hr
  have p1 : 0 ≤ v1 := by simp only [F.lt, decide_eq_false_iff_not] at d1; omega
  have ta := s1 p1
  have tam := ta.mid
  have ra := ta
  unfold Hello.Small at ra
  rw [b2 p1]; cbv
  refine both (fun d2 => ?_) (fun d2 => ?_) <;> rw [d2] <;> cbv
  · exact congrArg some hr
  have p2 : 0 ≤ v2 := by simp only [F.lt, decide_eq_false_iff_not] at d2; omega
  have tb := s2 p2
  have tbm := tb.mid
  have rb := tb
  unfold Hello.Small at rb
  have ka : o 85 [sHello e1 e2 (.sp 0 0) (.sp 0 1)] = some ⟨[sHello e1 e2 (.ow false) (.ow false)], [], none⟩ := by rw [ho, he1, he2]; exact ok85 a tam rfl rfl 
  have qa : o 78 [sHello e1 e2 (.sp 0 0) (.sp 0 1), sHello e1 e2 (.sp 1 0) (.sp 1 1)] = some ⟨[B true], [], none⟩ := by rw [ho, he1, he2]; exact ok78 a tam rfl rfl  rfl rfl 
  have kb : o 85 [sHello e3 e4 (.sp 0 0) (.sp 0 1)] = some ⟨[sHello e3 e4 (.ow false) (.ow false)], [], none⟩ := by rw [ho, he3, he4]; exact ok85 b tbm rfl rfl 
  have qb : o 78 [sHello e3 e4 (.sp 0 0) (.sp 0 1), sHello e3 e4 (.sp 1 0) (.sp 1 1)] = some ⟨[B true], [], none⟩ := by rw [ho, he3, he4]; exact ok78 b tbm rfl rfl  rfl rfl 
  have m1 : o 130 [sHello e1 e2 (.sp 0 0) (.sp 0 1), sHello e3 e4 (.sp 1 0) (.sp 1 1)] = some ⟨[B w], [], none⟩ := by rw [ho, hw, he1, he2, he3, he4]; exact ok130 a b (by omega) (by omega) (fun y hy => Nat.le_trans (show y.body.length ≤ 1048576 from ra.2.2 y hy) (by decide)) rfl rfl rfl rfl
  have m2 : o 131 [sHello e1 e2 (.sp 0 0) (.sp 0 1), sHello e3 e4 (.sp 1 0) (.sp 1 1)] = some ⟨[B w], [], none⟩ := by rw [ho, hw, he1, he2, he3, he4]; exact ok131 a b (by omega) (by omega) (fun y hy => Nat.le_trans (show y.body.length ≤ 1048576 from ra.2.2 y hy) (by decide)) rfl rfl rfl rfl
  repeat' (first | (rw [ka]; cbv) | (rw [qa]; cbv) | (rw [kb]; cbv) | (rw [qb]; cbv) | (rw [m1]; cbv) | (rw [m2]; cbv) | (rw [F.ne_f rfl]; cbv) | (rw [show not (beq w w) = false by rw [F.not, F.beq]; simp]; cbv) | (rw [show not true = false by rw [F.not]; rfl]; cbv) | exact congrArg some hr)
theorem ans19 : Answers Tb md 19 [(true, [.row [.int .i64], .row [.int .i64, .row [.int .i64]]]), (true, [.row [.int .i64], .row [.int .i64, .row [.int .i64]]])] := answers_of (by
  intro vs h
  obtain ⟨a, rfl, wa⟩ := fitL_Hello h
  intro vs h
  obtain ⟨b, rfl, wb⟩ := fitL_Hello h
  exact law19 a wa b wb)

end Go.Vm
