/- What the functions answer. -/
import Derived.Test.YtplnbpiaacohnaaL11Tab
set_option maxHeartbeats 4000000
set_option linter.unusedVariables false
set_option linter.unusedSimpArgs false
namespace Go.Vm

/- laws.szIntS -/
theorem ok227 {α : Type} (f : α → List V) (l : List α) (left : Int) (h : l.length ≤ 9223372036854775807) (h1 : 0 ≤ left) (h2 : left ≤ 1048576) {f0 : Fl} (h0 : inFl f0 = true) : fix Tb md 227 [R (row f l) f0, I left] = some ⟨[I (sz1 l.length left)], [], none⟩ := by
  by_cases hl : left - l.length < 0
  · rw [show sz1 l.length left = -1 by unfold sz1; rw [if_pos hl]]
    refine fix_fn (fn := ir227) tb_227 rfl rfl (by decide) rfl ?_; simp only [shutArgs, shutS, List.map_cons, List.map_nil, ir227, shut_in h0, List.head?_nil, reduceCtorEq, if_false, sExt, sHello, sAnswer, sEdit, sDeal, sBox, sDialed, sKnown]
    generalize hr : (⟨_, [], none⟩ : Ret) = r
    obtain ⟨ea, hea⟩ : ∃ y_, y_ = row f l := ⟨_, rfl⟩
    rw [← hea]
    intro add sub mul arith eq ne lt le gt ge neg conv mn mx not beq len at' ln bd cut app allS isNil mks set o hP F ho
    have le := F.len_at hea
    unfold At at le
    have hs : lt (sub .i64 left (len ea)) 0 = true := by rw [F.lt, F.sub, le, wrap64 (by omega) (by omega)]; simp; omega
    cbv
    rw [hs]
    cbv
    exact congrArg some hr
  · rw [show sz1 l.length left = left - l.length by unfold sz1; rw [if_neg hl]]
    refine fix_fn (fn := ir227) tb_227 rfl rfl (by decide) rfl ?_; simp only [shutArgs, shutS, List.map_cons, List.map_nil, ir227, shut_in h0, List.head?_nil, reduceCtorEq, if_false, sExt, sHello, sAnswer, sEdit, sDeal, sBox, sDialed, sKnown]
    obtain ⟨v, hv⟩ : ∃ y_, y_ = left - l.length := ⟨_, rfl⟩
    rw [← hv]
    generalize hr : (⟨_, [], none⟩ : Ret) = r
    obtain ⟨ea, hea⟩ : ∃ y_, y_ = row f l := ⟨_, rfl⟩
    rw [← hea]
    intro add sub mul arith eq ne lt le gt ge neg conv mn mx not beq len at' ln bd cut app allS isNil mks set o hP F ho
    have le := F.len_at hea
    unfold At at le
    have e1 : sub .i64 left (len ea) = v := by rw [F.sub, le, wrap64 (by omega) (by omega), hv]
    have hs : lt v 0 = false := by rw [F.lt, hv]; simp; omega
    cbv
    rw [e1, hs]
    cbv
    exact congrArg some hr

/- laws.szDeal -/
theorem ok61 (x : Deal) (left : Int) (w : x.Fits) (h1 : 0 ≤ left) (h2 : left ≤ 1048576) {f0 : Fl} (q0 : inFl f0 = true) :
    fix Tb md 61 [sDeal x.ok x.version (row fI x.tags) f0, I left] = some ⟨[I (szDeal x left)], [], none⟩ := by
  refine fix_fn (fn := ir61) tb_61 rfl rfl (by decide) rfl ?_; simp only [shutArgs, shutS, List.map_cons, List.map_nil, ir61, shut_in q0, List.head?_nil, reduceCtorEq, if_false, sExt, sHello, sAnswer, sEdit, sDeal, sBox, sDialed, sKnown]
  obtain ⟨v1, hv1⟩ : ∃ y_, y_ = sz1 x.tags.length left := ⟨_, rfl⟩
  rw [show szDeal x left = v1 by rw [hv1]; rfl]
  generalize hr : (⟨_, [], none⟩ : Ret) = r
  obtain ⟨e1, he1⟩ : ∃ y_, y_ = row fI x.tags := ⟨_, rfl⟩
  rw [← he1]
  have g1 : v1 ≤ 1048576 := by rw [hv1]; exact (Sz.of1 x.tags.length).up h2
  have l1 : -1 ≤ v1 := by rw [hv1]; exact (Sz.of1 x.tags.length).lo _ h2
  unfold Deal.Fits at w
  intro add sub mul arith eq ne lt le gt ge neg conv mn mx not beq len at' ln bd cut app allS isNil mks set o hP F ho
  have c1 : o 227 [R e1 (.sp 0 0), I left] = some ⟨[I v1], [], none⟩ := by rw [ho, hv1, he1]; exact ok227 fI _ _ w.2.1 h1 h2 rfl
  cbv
  rw [c1]; cbv
  refine both (fun d1 => ?_) (fun d1 => ?_) <;> rw [d1] <;> cbv
  · clear hP c1 ho; simp only [F.lt, decide_eq_true_eq] at d1; clear F; rw [← hr, show v1 = -1 by omega]
  exact congrArg some hr

/- laws.szDialed -/
theorem ok91 (x : Dialed) (left : Int) (w : x.Fits) (h1 : 0 ≤ left) (h2 : left ≤ 1048576) {f0 f1 : Fl} (q0 : inFl f0 = true) (q1 : inFl f1 = true) :
    fix Tb md 91 [sDialed x.deal.ok x.deal.version (row fI x.deal.tags) x.tries (row fI x.up) f0 f1, I left] = some ⟨[I (szDialed x left)], [], none⟩ := by
  refine fix_fn (fn := ir91) tb_91 rfl rfl (by decide) rfl ?_; simp only [shutArgs, shutS, List.map_cons, List.map_nil, ir91, shut_in q0, shut_in q1, List.head?_nil, reduceCtorEq, if_false, sExt, sHello, sAnswer, sEdit, sDeal, sBox, sDialed, sKnown]
  obtain ⟨v1, hv1⟩ : ∃ y_, y_ = szDeal x.deal left := ⟨_, rfl⟩
  obtain ⟨v2, hv2⟩ : ∃ y_, y_ = sz1 x.up.length v1 := ⟨_, rfl⟩
  rw [show szDialed x left = v2 by rw [hv2, hv1]; rfl]
  generalize hr : (⟨_, [], none⟩ : Ret) = r
  obtain ⟨e1, he1⟩ : ∃ y_, y_ = row fI x.deal.tags := ⟨_, rfl⟩
  obtain ⟨e2, he2⟩ : ∃ y_, y_ = row fI x.up := ⟨_, rfl⟩
  rw [← he1, ← he2]
  have g1 : v1 ≤ 1048576 := by rw [hv1]; exact (szDeal_Sz x.deal).up h2
  have l1 : -1 ≤ v1 := by rw [hv1]; exact (szDeal_Sz x.deal).lo _ h2
  have g2 : v2 ≤ 1048576 := by rw [hv2]; exact (Sz.of1 x.up.length).up g1
  have l2 : -1 ≤ v2 := by rw [hv2]; exact (Sz.of1 x.up.length).lo _ g1
  have n2 : v1 < 0 → v2 = -1 := fun q => by rw [hv2]; exact (Sz.of1 x.up.length).neg _ q
  unfold Dialed.Fits at w
  intro add sub mul arith eq ne lt le gt ge neg conv mn mx not beq len at' ln bd cut app allS isNil mks set o hP F ho
  have c1 : o 61 [sDeal x.deal.ok x.deal.version e1 (.sp 0 2), I left] = some ⟨[I v1], [], none⟩ := by rw [ho, hv1, he1]; exact ok61 x.deal _ w.1 h1 h2 rfl
  have c2 : 0 ≤ v1 → o 227 [R e2 (.sp 0 0), I v1] = some ⟨[I v2], [], none⟩ := by intro q; rw [ho, hv2, he2]; exact ok227 fI _ _ w.2.2.1 q g1 rfl
  cbv
  rw [c1]; cbv
  refine both (fun d1 => ?_) (fun d1 => ?_) <;> rw [d1] <;> cbv
  · clear hP c1 c2 ho; simp only [F.lt, decide_eq_true_eq] at d1; clear F; rw [← hr, show v2 = -1 by omega]
  rw [c2 (by simp only [F.lt, decide_eq_false_iff_not] at d1; omega)]; cbv
  refine both (fun d2 => ?_) (fun d2 => ?_) <;> rw [d2] <;> cbv
  · clear hP c1 c2 ho; simp only [F.lt, decide_eq_true_eq] at d2; clear F; rw [← hr, show v2 = -1 by omega]
  exact congrArg some hr

/- spec.EqualInts -/
theorem ok228 (a b : List Int) (hl : a.length ≤ 1099511627776) {f0 f1 : Fl} (h0 : inFl f0 = true) (h1 : inFl f1 = true) : fix Tb md 228 [R (row fI a) f0, R (row fI b) f1] = some ⟨[B (decide (a = b))], [], none⟩ := by
  refine fix_fn (fn := ir228) tb_228 rfl rfl (by decide) rfl ?_; simp only [shutArgs, shutS, List.map_cons, List.map_nil, ir228, shut_in h0, shut_in h1, List.head?_nil, reduceCtorEq, if_false, sExt, sHello, sAnswer, sEdit, sDeal, sBox, sDialed, sKnown]
  generalize hr : (⟨_, [], none⟩ : Ret) = r
  obtain ⟨ea, hea⟩ : ∃ y_, y_ = row fI a := ⟨_, rfl⟩
  obtain ⟨eb, heb⟩ : ∃ y_, y_ = row fI b := ⟨_, rfl⟩
  rw [← hea, ← heb]
  intro add sub mul arith eq ne lt le gt ge neg conv mn mx not beq len at' ln bd cut app allS isNil mks set o hP F ho
  have la := F.len_at hea
  have lb := F.len_at heb
  cbv
  by_cases hab : a.length = b.length
  · rw [F.ne_f (by unfold At at la lb; omega)]; cbv
    refine loop_ind hP (σ := List Int × List Int × List Int × Int) (fun s => [(0, R ea .sh), (1, R eb .sh), (4, B false), (5, I s.2.2.2)]) (fun s => At s.2.2.2 s.1.length ∧ a = s.1 ++ s.2.1 ∧ b = s.1 ++ s.2.2.1) (fun s => s.2.1.length) ([], a, b, 0) rfl ⟨rfl, rfl, rfl⟩ ?_
    rintro ⟨pre, sa, sb, i⟩ ⟨hi, ha, hb⟩ ih
    simp only at hi ha hb ih
    cbv
    have hlen : sa.length = sb.length := by simp [ha, hb] at hab; exact hab
    match sa, sb, hlen, ha, hb with
    | [], [], _, ha, hb =>
      rw [F.lt_f hi la (by simp [ha])]; cbv
      rw [← hr]; simp [ha, hb]
    | x :: sa, y :: sb, _, ha, hb =>
      rw [F.lt_t hi la (by simp [ha])]; cbv
      obtain ⟨ix, hix⟩ : ∃ y_, y_ = pre.length * 1 := ⟨_, rfl⟩
      rw [show at' 1 ea i = some (ix, [.int .i64 x]) by rw [hix]; exact F.get hi hea ha (fun _ => rfl) (by decide)]; cbv
      rw [show at' 1 eb i = some (ix, [.int .i64 y]) by rw [hix]; exact F.get hi heb hb (fun _ => rfl) (by decide)]; cbv
      by_cases hxy : x = y
      · rw [F.ne_f hxy]; cbv
        refine ih (pre ++ [x], sa, sb, add .i64 i 1) ⟨at_len (F.inc hi (by simp [ha] at hl; omega)) (by simp), by simp [ha], by simp [hb, hxy]⟩ (by simp)
      · rw [F.ne_t hxy]; cbv
        rw [← hr]; simp [ha, hb, hxy]
  · rw [F.ne_t (by unfold At at la lb; omega)]; cbv
    rw [← hr]
    simp
    intro e; exact hab (by rw [e])

/- spec.EqualDeals -/
theorem ok62 (a b : Deal) (w0 : a.tags.length ≤ 1099511627776) {f0 g0 : Fl} (q0 : inFl f0 = true) (p0 : inFl g0 = true) :
    fix Tb md 62 [sDeal a.ok a.version (row fI a.tags) f0, sDeal b.ok b.version (row fI b.tags) g0] = some ⟨[B (decide (a = b))], [], none⟩ := by
  refine fix_fn (fn := ir62) tb_62 rfl rfl (by decide) rfl ?_; simp only [shutArgs, shutS, List.map_cons, List.map_nil, ir62, shut_in q0, shut_in p0, List.head?_nil, reduceCtorEq, if_false, sExt, sHello, sAnswer, sEdit, sDeal, sBox, sDialed, sKnown]
  generalize hr : (⟨_, [], none⟩ : Ret) = r
  obtain ⟨d0, hd0⟩ : ∃ y_, y_ = row fI a.tags := ⟨_, rfl⟩
  obtain ⟨e0, he0⟩ : ∃ y_, y_ = row fI b.tags := ⟨_, rfl⟩
  rw [← hd0, ← he0]
  obtain ⟨v0, hv0⟩ : ∃ y_, y_ = decide (a.tags = b.tags) := ⟨_, rfl⟩
  intro add sub mul arith eq ne lt le gt ge neg conv mn mx not beq len at' ln bd cut app allS isNil mks set o hP F ho
  have c0 : o 228 [R d0 (.sp 0 0), R e0 (.sp 1 0)] = some ⟨[B v0], [], none⟩ := by rw [ho, hv0, hd0, he0]; exact ok228 _ _ w0 rfl rfl
  cbv
  repeat' (first | (rw [c0]; cbv) | (refine both (fun c => ?_) (fun c => ?_) <;> (try rw [c]) <;> (try cbv)))
  all_goals (clear hP c0 ho; try simp only [F.eq, F.ne, F.le, F.lt, F.ge, F.gt, F.not, F.beq] at *; clear F; subst hr)
  all_goals (simp_all [Deal.eq_iff] <;> (intros; omega))

/- spec.EqualDialed -/
theorem ok92 (a b : Dialed) (w0 : a.deal.tags.length ≤ 1099511627776) (w1 : a.up.length ≤ 1099511627776) {f0 f1 g0 g1 : Fl} (q0 : inFl f0 = true) (q1 : inFl f1 = true) (p0 : inFl g0 = true) (p1 : inFl g1 = true) :
    fix Tb md 92 [sDialed a.deal.ok a.deal.version (row fI a.deal.tags) a.tries (row fI a.up) f0 f1, sDialed b.deal.ok b.deal.version (row fI b.deal.tags) b.tries (row fI b.up) g0 g1] = some ⟨[B (decide (a = b))], [], none⟩ := by
  refine fix_fn (fn := ir92) tb_92 rfl rfl (by decide) rfl ?_; simp only [shutArgs, shutS, List.map_cons, List.map_nil, ir92, shut_in q0, shut_in q1, shut_in p0, shut_in p1, List.head?_nil, reduceCtorEq, if_false, sExt, sHello, sAnswer, sEdit, sDeal, sBox, sDialed, sKnown]
  generalize hr : (⟨_, [], none⟩ : Ret) = r
  obtain ⟨d0, hd0⟩ : ∃ y_, y_ = row fI a.deal.tags := ⟨_, rfl⟩
  obtain ⟨e0, he0⟩ : ∃ y_, y_ = row fI b.deal.tags := ⟨_, rfl⟩
  obtain ⟨d1, hd1⟩ : ∃ y_, y_ = row fI a.up := ⟨_, rfl⟩
  obtain ⟨e1, he1⟩ : ∃ y_, y_ = row fI b.up := ⟨_, rfl⟩
  rw [← hd0, ← he0, ← hd1, ← he1]
  obtain ⟨v0, hv0⟩ : ∃ y_, y_ = decide (a.deal = b.deal) := ⟨_, rfl⟩
  obtain ⟨v1, hv1⟩ : ∃ y_, y_ = decide (a.up = b.up) := ⟨_, rfl⟩
  intro add sub mul arith eq ne lt le gt ge neg conv mn mx not beq len at' ln bd cut app allS isNil mks set o hP F ho
  have c0 : o 62 [sDeal a.deal.ok a.deal.version d0 (.sp 0 2), sDeal b.deal.ok b.deal.version e0 (.sp 1 2)] = some ⟨[B v0], [], none⟩ := by rw [ho, hv0, hd0, he0]; exact ok62 _ _ w0 rfl rfl
  have c1 : o 228 [R d1 (.sp 0 0), R e1 (.sp 1 0)] = some ⟨[B v1], [], none⟩ := by rw [ho, hv1, hd1, he1]; exact ok228 _ _ w1 rfl rfl
  cbv
  repeat' (first | (rw [c0]; cbv) | (rw [c1]; cbv) | (refine both (fun c => ?_) (fun c => ?_) <;> (try rw [c]) <;> (try cbv)))
  all_goals (clear hP c0 c1 ho; try simp only [F.eq, F.ne, F.le, F.lt, F.ge, F.gt, F.not, F.beq] at *; clear F; subst hr)
  all_goals (simp_all [Dialed.eq_iff] <;> (intros; omega))

/- laws.toIntS -/
theorem ok76 (l : List Int) (hl : l.length ≤ 1099511627776) {f0 : Fl} (h0 : inFl f0 = true) : fix Tb md 76 [R (row fI l) f0] = some ⟨[R (row fI l) (.ow false)], [], none⟩ := by
  refine fix_fn (fn := ir76) tb_76 rfl rfl (by decide) rfl ?_; simp only [shutArgs, shutS, List.map_cons, List.map_nil, ir76, shut_in h0, List.head?_nil, reduceCtorEq, if_false, sExt, sHello, sAnswer, sEdit, sDeal, sBox, sDialed, sKnown]
  generalize hr : (⟨_, [], none⟩ : Ret) = r
  obtain ⟨e1, he1⟩ : ∃ y_, y_ = row fI l := ⟨_, rfl⟩
  rw [← he1] at hr ⊢
  intro add sub mul arith eq ne lt le gt ge neg conv mn mx not beq len at' ln bd cut app allS isNil mks set o hP F ho
  have la := F.len_at he1
  cbv
  obtain ⟨e2, he2⟩ : ∃ y_, y_ = row fI (List.replicate l.length 0) := ⟨_, rfl⟩
  rw [show mks [.int .i64 0] (len e1) (len e1) = some e2 by rw [F.mks, show len e1 = _ from la, he2]; exact row_mk (f := fI) (a := 0) rfl (by simp [fI]) hl]; cbv
  refine loop_ind hP (σ := List Int × List Int × List (List V) × Int) (fun s => [(0, R e1 .sh), (2, R [] .nl), (3, R s.2.2.1 (.ow false)), (4, I s.2.2.2)])
    (fun s => At s.2.2.2 s.2.1.length ∧ l = s.2.1 ++ s.1 ∧ s.2.2.1 = row fI (s.2.1 ++ List.replicate s.1.length 0)) (fun s => s.1.length) (l, [], e2, 0) rfl ⟨rfl, rfl, by simpa using he2⟩ ?_
  rintro ⟨suf, pre, eo, i⟩ ⟨hi, hl', heo⟩ ih
  simp only at hi hl' heo ih
  cbv
  cases suf with
  | nil =>
    rw [F.lt_f hi la (by simp [hl'])]; cbv
    rw [← hr, heo, he1, hl']; simp
  | cons x suf =>
    rw [F.lt_t hi la (by simp [hl'])]; cbv
    obtain ⟨ix, hix⟩ : ∃ y_, y_ = pre.length * 1 := ⟨_, rfl⟩
    rw [show at' 1 e1 i = some (ix, [.int .i64 x]) by rw [hix]; exact F.get hi he1 hl' (fun _ => rfl) (by decide)]; cbv
    rw [show at' 1 eo i = some (ix, [.int .i64 0]) by rw [hix]; exact F.get hi heo rfl (fun _ => rfl) (by decide)]; cbv
    obtain ⟨eo', heo'⟩ : ∃ y_, y_ = row fI (pre ++ x :: List.replicate suf.length 0) := ⟨_, rfl⟩
    rw [show set eo ix [.int .i64 x] = some eo' by rw [F.set, heo, hix, heo']; exact set_one (fun _ => rfl) rfl]; cbv
    refine ih (suf, pre ++ [x], eo', add .i64 i 1) ⟨at_len (F.inc hi (by simp [hl'] at hl; omega)) (by simp), by simp [hl'], by simp [heo']⟩ (by simp)

/- laws.toDeal -/
theorem ok63 (x : Deal) (w : x.Mid) {f0 : Fl} (q0 : inFl f0 = true) :
    fix Tb md 63 [sDeal x.ok x.version (row fI x.tags) f0] = some ⟨[sDeal x.ok x.version (row fI x.tags) (.ow false)], [], none⟩ := by
  refine fix_fn (fn := ir63) tb_63 rfl rfl (by decide) rfl ?_; simp only [shutArgs, shutS, List.map_cons, List.map_nil, ir63, shut_in q0, List.head?_nil, reduceCtorEq, if_false, sExt, sHello, sAnswer, sEdit, sDeal, sBox, sDialed, sKnown]
  generalize hr : (⟨_, [], none⟩ : Ret) = r
  obtain ⟨e1, he1⟩ : ∃ y_, y_ = row fI x.tags := ⟨_, rfl⟩
  rw [← he1] at hr ⊢
  unfold Deal.Mid at w
  intro add sub mul arith eq ne lt le gt ge neg conv mn mx not beq len at' ln bd cut app allS isNil mks set o hP F ho
  have c1 : o 76 [R e1 (.sp 0 0)] = some ⟨[R e1 (.ow false)], [], none⟩ := by rw [ho, he1]; exact ok76 _ (by have := w; omega) rfl
  cbv
  rw [c1]; cbv
  exact congrArg some hr

/- laws.toDialed -/
theorem ok93 (x : Dialed) (w : x.Mid) {f0 f1 : Fl} (q0 : inFl f0 = true) (q1 : inFl f1 = true) :
    fix Tb md 93 [sDialed x.deal.ok x.deal.version (row fI x.deal.tags) x.tries (row fI x.up) f0 f1] = some ⟨[sDialed x.deal.ok x.deal.version (row fI x.deal.tags) x.tries (row fI x.up) (.ow false) (.ow false)], [], none⟩ := by
  refine fix_fn (fn := ir93) tb_93 rfl rfl (by decide) rfl ?_; simp only [shutArgs, shutS, List.map_cons, List.map_nil, ir93, shut_in q0, shut_in q1, List.head?_nil, reduceCtorEq, if_false, sExt, sHello, sAnswer, sEdit, sDeal, sBox, sDialed, sKnown]
  generalize hr : (⟨_, [], none⟩ : Ret) = r
  obtain ⟨e1, he1⟩ : ∃ y_, y_ = row fI x.deal.tags := ⟨_, rfl⟩
  obtain ⟨e2, he2⟩ : ∃ y_, y_ = row fI x.up := ⟨_, rfl⟩
  rw [← he1, ← he2] at hr ⊢
  unfold Dialed.Mid at w
  intro add sub mul arith eq ne lt le gt ge neg conv mn mx not beq len at' ln bd cut app allS isNil mks set o hP F ho
  have c1 : o 63 [sDeal x.deal.ok x.deal.version e1 (.sp 0 2)] = some ⟨[sDeal x.deal.ok x.deal.version e1 (.ow false)], [], none⟩ := by rw [ho, he1]; exact ok63 x.deal w.1 rfl
  have c2 : o 76 [R e2 (.sp 0 0)] = some ⟨[R e2 (.ow false)], [], none⟩ := by rw [ho, he2]; exact ok76 _ (by have := w.2; omega) rfl
  cbv
  rw [c1]; cbv
  rw [c2]; cbv
  exact congrArg some hr

/- slices.Equal[[]int,int] -/
theorem ok229 (a b : List Int) (hl : a.length ≤ 1099511627776) {f0 f1 : Fl} (h0 : inFl f0 = true) (h1 : inFl f1 = true) : fix Tb md 229 [R (row fI a) f0, R (row fI b) f1] = some ⟨[B (decide (a = b))], [], none⟩ := by
  refine fix_fn (fn := ir229) tb_229 rfl rfl (by decide) rfl ?_; simp only [shutArgs, shutS, List.map_cons, List.map_nil, ir229, shut_in h0, shut_in h1, List.head?_nil, reduceCtorEq, if_false, sExt, sHello, sAnswer, sEdit, sDeal, sBox, sDialed, sKnown]
  generalize hr : (⟨_, [], none⟩ : Ret) = r
  obtain ⟨ea, hea⟩ : ∃ y_, y_ = row fI a := ⟨_, rfl⟩
  obtain ⟨eb, heb⟩ : ∃ y_, y_ = row fI b := ⟨_, rfl⟩
  rw [← hea, ← heb]
  intro add sub mul arith eq ne lt le gt ge neg conv mn mx not beq len at' ln bd cut app allS isNil mks set o hP F ho
  have la := F.len_at hea
  have lb := F.len_at heb
  cbv
  by_cases hab : a.length = b.length
  · rw [F.ne_f (by unfold At at la lb; omega)]; cbv
    refine loop_ind hP (σ := List Int × List Int × List Int × Int × Option Int) (fun s => match s.2.2.2.2 with | none => [(0, R ea .sh), (1, R eb .sh), (4, B false), (12, I (len ea)), (13, I s.2.2.2.1)] | some j => [(0, R ea .sh), (1, R eb .sh), (4, B false), (5, I j), (12, I (len ea)), (13, I s.2.2.2.1)]) (fun s => At s.2.2.2.1 s.1.length ∧ a = s.1 ++ s.2.1 ∧ b = s.1 ++ s.2.2.1) (fun s => s.2.1.length) ([], a, b, 0, none) rfl ⟨rfl, rfl, rfl⟩ ?_
    rintro ⟨pre, sa, sb, i, j⟩ ⟨hi, ha, hb⟩ ih
    simp only at hi ha hb ih
    have hlen : sa.length = sb.length := by simp [ha, hb] at hab; exact hab
    cases j <;> cbv <;> (
      match sa, sb, hlen, ha, hb with
      | [], [], _, ha, hb =>
        rw [F.lt_f hi la (by simp [ha])]; cbv
        rw [← hr]; simp [ha, hb]
      | x :: sa, y :: sb, _, ha, hb =>
        rw [F.lt_t hi la (by simp [ha])]; cbv
        obtain ⟨ix, hix⟩ : ∃ y_, y_ = pre.length * 1 := ⟨_, rfl⟩
        rw [show at' 1 ea i = some (ix, [.int .i64 x]) by rw [hix]; exact F.get hi hea ha (fun _ => rfl) (by decide)]; cbv
        rw [show at' 1 eb i = some (ix, [.int .i64 y]) by rw [hix]; exact F.get hi heb hb (fun _ => rfl) (by decide)]; cbv
        by_cases hxy : x = y
        · rw [F.ne_f hxy]; cbv
          refine ih (pre ++ [x], sa, sb, add .i64 i 1, some i) ⟨at_len (F.inc hi (by simp [ha] at hl; omega)) (by simp), by simp [ha], by simp [hb, hxy]⟩ (by simp)
        · rw [F.ne_t hxy]; cbv
          rw [← hr]; simp [ha, hb, hxy])
  · rw [F.ne_t (by unfold At at la lb; omega)]; cbv
    rw [← hr]
    simp
    intro e; exact hab (by rw [e])

/- impl.EqualDeals -/
theorem ok64 (a b : Deal) (w0 : a.tags.length ≤ 1099511627776) {f0 g0 : Fl} (q0 : inFl f0 = true) (p0 : inFl g0 = true) :
    fix Tb md 64 [sDeal a.ok a.version (row fI a.tags) f0, sDeal b.ok b.version (row fI b.tags) g0] = some ⟨[B (decide (a = b))], [], none⟩ := by
  refine fix_fn (fn := ir64) tb_64 rfl rfl (by decide) rfl ?_; simp only [shutArgs, shutS, List.map_cons, List.map_nil, ir64, shut_in q0, shut_in p0, List.head?_nil, reduceCtorEq, if_false, sExt, sHello, sAnswer, sEdit, sDeal, sBox, sDialed, sKnown]
  generalize hr : (⟨_, [], none⟩ : Ret) = r
  obtain ⟨d0, hd0⟩ : ∃ y_, y_ = row fI a.tags := ⟨_, rfl⟩
  obtain ⟨e0, he0⟩ : ∃ y_, y_ = row fI b.tags := ⟨_, rfl⟩
  rw [← hd0, ← he0]
  obtain ⟨v0, hv0⟩ : ∃ y_, y_ = decide (a.tags = b.tags) := ⟨_, rfl⟩
  intro add sub mul arith eq ne lt le gt ge neg conv mn mx not beq len at' ln bd cut app allS isNil mks set o hP F ho
  have c0 : o 229 [R d0 (.sp 0 0), R e0 (.sp 1 0)] = some ⟨[B v0], [], none⟩ := by rw [ho, hv0, hd0, he0]; exact ok229 _ _ w0 rfl rfl
  cbv
  repeat' (first | (rw [c0]; cbv) | (refine both (fun c => ?_) (fun c => ?_) <;> (try rw [c]) <;> (try cbv)))
  all_goals (clear hP c0 ho; try simp only [F.eq, F.ne, F.le, F.lt, F.ge, F.gt, F.not, F.beq] at *; clear F; subst hr)
  all_goals (simp_all [Deal.eq_iff] <;> (intros; omega))

/- impl.EqualDialed -/
theorem ok94 (a b : Dialed) (w0 : a.deal.tags.length ≤ 1099511627776) (w1 : a.up.length ≤ 1099511627776) {f0 f1 g0 g1 : Fl} (q0 : inFl f0 = true) (q1 : inFl f1 = true) (p0 : inFl g0 = true) (p1 : inFl g1 = true) :
    fix Tb md 94 [sDialed a.deal.ok a.deal.version (row fI a.deal.tags) a.tries (row fI a.up) f0 f1, sDialed b.deal.ok b.deal.version (row fI b.deal.tags) b.tries (row fI b.up) g0 g1] = some ⟨[B (decide (a = b))], [], none⟩ := by
  refine fix_fn (fn := ir94) tb_94 rfl rfl (by decide) rfl ?_; simp only [shutArgs, shutS, List.map_cons, List.map_nil, ir94, shut_in q0, shut_in q1, shut_in p0, shut_in p1, List.head?_nil, reduceCtorEq, if_false, sExt, sHello, sAnswer, sEdit, sDeal, sBox, sDialed, sKnown]
  generalize hr : (⟨_, [], none⟩ : Ret) = r
  obtain ⟨d0, hd0⟩ : ∃ y_, y_ = row fI a.deal.tags := ⟨_, rfl⟩
  obtain ⟨e0, he0⟩ : ∃ y_, y_ = row fI b.deal.tags := ⟨_, rfl⟩
  obtain ⟨d1, hd1⟩ : ∃ y_, y_ = row fI a.up := ⟨_, rfl⟩
  obtain ⟨e1, he1⟩ : ∃ y_, y_ = row fI b.up := ⟨_, rfl⟩
  rw [← hd0, ← he0, ← hd1, ← he1]
  obtain ⟨v0, hv0⟩ : ∃ y_, y_ = decide (a.deal = b.deal) := ⟨_, rfl⟩
  obtain ⟨v1, hv1⟩ : ∃ y_, y_ = decide (a.up = b.up) := ⟨_, rfl⟩
  intro add sub mul arith eq ne lt le gt ge neg conv mn mx not beq len at' ln bd cut app allS isNil mks set o hP F ho
  have c0 : o 64 [sDeal a.deal.ok a.deal.version d0 (.sp 0 2), sDeal b.deal.ok b.deal.version e0 (.sp 1 2)] = some ⟨[B v0], [], none⟩ := by rw [ho, hv0, hd0, he0]; exact ok64 _ _ w0 rfl rfl
  have c1 : o 229 [R d1 (.sp 0 0), R e1 (.sp 1 0)] = some ⟨[B v1], [], none⟩ := by rw [ho, hv1, hd1, he1]; exact ok229 _ _ w1 rfl rfl
  cbv
  repeat' (first | (rw [c0]; cbv) | (rw [c1]; cbv) | (refine both (fun c => ?_) (fun c => ?_) <;> (try rw [c]) <;> (try cbv)))
  all_goals (clear hP c0 c1 ho; try simp only [F.eq, F.ne, F.le, F.lt, F.ge, F.gt, F.not, F.beq] at *; clear F; subst hr)
  all_goals (simp_all [Dialed.eq_iff] <;> (intros; omega))

/- laws.eqIntS -/
theorem ok79 (a b : List Int) (hl : a.length ≤ 1099511627776) {f0 f1 : Fl} (h0 : inFl f0 = true) (h1 : inFl f1 = true) : fix Tb md 79 [R (row fI a) f0, R (row fI b) f1] = some ⟨[B (decide (a = b))], [], none⟩ := by
  refine fix_fn (fn := ir79) tb_79 rfl rfl (by decide) rfl ?_; simp only [shutArgs, shutS, List.map_cons, List.map_nil, ir79, shut_in h0, shut_in h1, List.head?_nil, reduceCtorEq, if_false, sExt, sHello, sAnswer, sEdit, sDeal, sBox, sDialed, sKnown]
  generalize hr : (⟨_, [], none⟩ : Ret) = r
  obtain ⟨ea, hea⟩ : ∃ y_, y_ = row fI a := ⟨_, rfl⟩
  obtain ⟨eb, heb⟩ : ∃ y_, y_ = row fI b := ⟨_, rfl⟩
  rw [← hea, ← heb]
  intro add sub mul arith eq ne lt le gt ge neg conv mn mx not beq len at' ln bd cut app allS isNil mks set o hP F ho
  have la := F.len_at hea
  have lb := F.len_at heb
  cbv
  by_cases hab : a.length = b.length
  · rw [F.ne_f (by unfold At at la lb; omega)]; cbv
    refine loop_ind hP (σ := List Int × List Int × List Int × Int) (fun s => [(0, R ea .sh), (1, R eb .sh), (4, B false), (5, I s.2.2.2)]) (fun s => At s.2.2.2 s.1.length ∧ a = s.1 ++ s.2.1 ∧ b = s.1 ++ s.2.2.1) (fun s => s.2.1.length) ([], a, b, 0) rfl ⟨rfl, rfl, rfl⟩ ?_
    rintro ⟨pre, sa, sb, i⟩ ⟨hi, ha, hb⟩ ih
    simp only at hi ha hb ih
    cbv
    have hlen : sa.length = sb.length := by simp [ha, hb] at hab; exact hab
    match sa, sb, hlen, ha, hb with
    | [], [], _, ha, hb =>
      rw [F.lt_f hi la (by simp [ha])]; cbv
      rw [← hr]; simp [ha, hb]
    | x :: sa, y :: sb, _, ha, hb =>
      rw [F.lt_t hi la (by simp [ha])]; cbv
      obtain ⟨ix, hix⟩ : ∃ y_, y_ = pre.length * 1 := ⟨_, rfl⟩
      rw [show at' 1 ea i = some (ix, [.int .i64 x]) by rw [hix]; exact F.get hi hea ha (fun _ => rfl) (by decide)]; cbv
      rw [show at' 1 eb i = some (ix, [.int .i64 y]) by rw [hix]; exact F.get hi heb hb (fun _ => rfl) (by decide)]; cbv
      by_cases hxy : x = y
      · rw [F.ne_f hxy]; cbv
        refine ih (pre ++ [x], sa, sb, add .i64 i 1) ⟨at_len (F.inc hi (by simp [ha] at hl; omega)) (by simp), by simp [ha], by simp [hb, hxy]⟩ (by simp)
      · rw [F.ne_t hxy]; cbv
        rw [← hr]; simp [ha, hb, hxy]
  · rw [F.ne_t (by unfold At at la lb; omega)]; cbv
    rw [← hr]
    simp
    intro e; exact hab (by rw [e])
theorem ok79t (a : List Int) (hl : a.length ≤ 1099511627776) {f0 f1 : Fl} (h0 : inFl f0 = true) (h1 : inFl f1 = true) : fix Tb md 79 [R (row fI a) f0, R (row fI a) f1] = some ⟨[B true], [], none⟩ := by simpa using ok79 a a hl h0 h1

/- laws.eqDeal -/
theorem ok65 (x : Deal) (w : x.Mid) {f0 : Fl} (q0 : inFl f0 = true) {g0 : Fl} (p0 : inFl g0 = true) :
    fix Tb md 65 [sDeal x.ok x.version (row fI x.tags) f0, sDeal x.ok x.version (row fI x.tags) g0] = some ⟨[B true], [], none⟩ := by
  refine fix_fn (fn := ir65) tb_65 rfl rfl (by decide) rfl ?_; simp only [shutArgs, shutS, List.map_cons, List.map_nil, ir65, shut_in q0, shut_in p0, List.head?_nil, reduceCtorEq, if_false, sExt, sHello, sAnswer, sEdit, sDeal, sBox, sDialed, sKnown]
  generalize hr : (⟨_, [], none⟩ : Ret) = r
  obtain ⟨e1, he1⟩ : ∃ y_, y_ = row fI x.tags := ⟨_, rfl⟩
  rw [← he1]
  unfold Deal.Mid at w
  intro add sub mul arith eq ne lt le gt ge neg conv mn mx not beq len at' ln bd cut app allS isNil mks set o hP F ho
  have c1 : o 79 [R e1 (.sp 0 0), R e1 (.sp 1 0)] = some ⟨[B true], [], none⟩ := by rw [ho, he1]; exact ok79t _ (by have := w; omega) rfl rfl
  cbv
  rw [show not (beq x.ok x.ok) = false by rw [F.not, F.beq]; simp]; cbv
  rw [F.ne_f rfl]; cbv
  rw [c1]; cbv
  rw [show not true = false by rw [F.not]; rfl]; cbv
  exact congrArg some hr

/- laws.eqDialed -/
theorem ok95 (x : Dialed) (w : x.Mid) {f0 f1 : Fl} (q0 : inFl f0 = true) (q1 : inFl f1 = true) {g0 g1 : Fl} (p0 : inFl g0 = true) (p1 : inFl g1 = true) :
    fix Tb md 95 [sDialed x.deal.ok x.deal.version (row fI x.deal.tags) x.tries (row fI x.up) f0 f1, sDialed x.deal.ok x.deal.version (row fI x.deal.tags) x.tries (row fI x.up) g0 g1] = some ⟨[B true], [], none⟩ := by
  refine fix_fn (fn := ir95) tb_95 rfl rfl (by decide) rfl ?_; simp only [shutArgs, shutS, List.map_cons, List.map_nil, ir95, shut_in q0, shut_in q1, shut_in p0, shut_in p1, List.head?_nil, reduceCtorEq, if_false, sExt, sHello, sAnswer, sEdit, sDeal, sBox, sDialed, sKnown]
  generalize hr : (⟨_, [], none⟩ : Ret) = r
  obtain ⟨e1, he1⟩ : ∃ y_, y_ = row fI x.deal.tags := ⟨_, rfl⟩
  obtain ⟨e2, he2⟩ : ∃ y_, y_ = row fI x.up := ⟨_, rfl⟩
  rw [← he1, ← he2]
  unfold Dialed.Mid at w
  intro add sub mul arith eq ne lt le gt ge neg conv mn mx not beq len at' ln bd cut app allS isNil mks set o hP F ho
  have c1 : o 65 [sDeal x.deal.ok x.deal.version e1 (.sp 0 2), sDeal x.deal.ok x.deal.version e1 (.sp 1 2)] = some ⟨[B true], [], none⟩ := by rw [ho, he1]; exact ok65 x.deal w.1 rfl rfl
  have c2 : o 79 [R e2 (.sp 0 0), R e2 (.sp 1 0)] = some ⟨[B true], [], none⟩ := by rw [ho, he2]; exact ok79t _ (by have := w.2; omega) rfl rfl
  cbv
  rw [c1]; cbv
  rw [show not true = false by rw [F.not]; rfl]; cbv
  rw [F.ne_f rfl]; cbv
  rw [c2]; cbv
  rw [show not true = false by rw [F.not]; rfl]; cbv
  exact congrArg some hr

/- laws.FnExactEqualDialed -/
theorem law11 (a : Dialed) (wa : a.Fits) (b : Dialed) (wb : b.Fits) :
    fix Tb md 11 [sDialed a.deal.ok a.deal.version (row fI a.deal.tags) a.tries (row fI a.up) (.sp 0 2) (.sp 0 4), sDialed b.deal.ok b.deal.version (row fI b.deal.tags) b.tries (row fI b.up) (.sp 1 2) (.sp 1 4)] = some ⟨[B true], [], none⟩ := by
  refine fix_fn (fn := ir11) tb_11 rfl rfl (by decide) rfl ?_; simp only [shutArgs, shutS, List.map_cons, List.map_nil, ir11, List.head?_nil, reduceCtorEq, if_false, sExt, sHello, sAnswer, sEdit, sDeal, sBox, sDialed, sKnown, shut_in (f := .sp 0 2) rfl, shut_in (f := .sp 0 4) rfl, shut_in (f := .sp 1 2) rfl, shut_in (f := .sp 1 4) rfl]
  generalize hr : (⟨_, [], none⟩ : Ret) = r
  obtain ⟨e1, he1⟩ : ∃ y_, y_ = row fI a.deal.tags := ⟨_, rfl⟩
  obtain ⟨e2, he2⟩ : ∃ y_, y_ = row fI a.up := ⟨_, rfl⟩
  obtain ⟨e3, he3⟩ : ∃ y_, y_ = row fI b.deal.tags := ⟨_, rfl⟩
  obtain ⟨e4, he4⟩ : ∃ y_, y_ = row fI b.up := ⟨_, rfl⟩
  rw [← he1, ← he2, ← he3, ← he4]
  obtain ⟨v1, hv1⟩ : ∃ y_, y_ = szDialed a 1048576 := ⟨_, rfl⟩
  have u1 : v1 ≤ 1048576 := by rw [hv1]; exact (szDialed_Sz a).up (by decide)
  have s1 := fun q : 0 ≤ v1 => (szDialed_Sz a).ok 1048576 (by decide) (hv1 ▸ q)
  obtain ⟨v2, hv2⟩ : ∃ y_, y_ = szDialed b v1 := ⟨_, rfl⟩
  have u2 : v2 ≤ 1048576 := by rw [hv2]; exact (szDialed_Sz b).up u1
  have s2 := fun q : 0 ≤ v2 => (szDialed_Sz b).ok v1 u1 (hv2 ▸ q)
  obtain ⟨w, hw⟩ : ∃ y_, y_ = decide (a = b) := ⟨_, rfl⟩
  intro add sub mul arith eq ne lt le gt ge neg conv mn mx not beq len at' ln bd cut app allS isNil mks set o hP F ho
  have b1 : o 91 [sDialed a.deal.ok a.deal.version e1 a.tries e2 (.sp 0 2) (.sp 0 4), I 1048576] = some ⟨[I v1], [], none⟩ := by rw [ho, hv1, he1, he2]; exact ok91 a _ wa (by decide) (by decide) rfl rfl 
  have b2 : 0 ≤ v1 → o 91 [sDialed b.deal.ok b.deal.version e3 b.tries e4 (.sp 0 2) (.sp 0 4), I v1] = some ⟨[I v2], [], none⟩ := by intro q; rw [ho, hv2, he3, he4]; exact ok91 b _ wb q u1 rfl rfl 
  cbv
  rw [b1]; cbv
  refine both (fun d1 => ?_) (fun d1 => ?_) <;> rw [d1] <;> cbv
  · exact congrArg some hr
  have p1 : 0 ≤ v1 := by simp only [F.lt, decide_eq_false_iff_not] at d1; omega
  have ta := s1 p1
  have tam := ta.mid
  have ra := ta
  unfold Dialed.Small at ra
  rw [b2 p1]; cbv
  refine both (fun d2 => ?_) (fun d2 => ?_) <;> rw [d2] <;> cbv
  · exact congrArg some hr
  have p2 : 0 ≤ v2 := by simp only [F.lt, decide_eq_false_iff_not] at d2; omega
  have tb := s2 p2
  have tbm := tb.mid
  have rb := tb
  unfold Dialed.Small at rb
  have ka : o 93 [sDialed a.deal.ok a.deal.version e1 a.tries e2 (.sp 0 2) (.sp 0 4)] = some ⟨[sDialed a.deal.ok a.deal.version e1 a.tries e2 (.ow false) (.ow false)], [], none⟩ := by rw [ho, he1, he2]; exact ok93 a tam rfl rfl 
  have qa : o 95 [sDialed a.deal.ok a.deal.version e1 a.tries e2 (.sp 0 2) (.sp 0 4), sDialed a.deal.ok a.deal.version e1 a.tries e2 (.sp 1 2) (.sp 1 4)] = some ⟨[B true], [], none⟩ := by rw [ho, he1, he2]; exact ok95 a tam rfl rfl  rfl rfl 
  have kb : o 93 [sDialed b.deal.ok b.deal.version e3 b.tries e4 (.sp 0 2) (.sp 0 4)] = some ⟨[sDialed b.deal.ok b.deal.version e3 b.tries e4 (.ow false) (.ow false)], [], none⟩ := by rw [ho, he3, he4]; exact ok93 b tbm rfl rfl 
  have qb : o 95 [sDialed b.deal.ok b.deal.version e3 b.tries e4 (.sp 0 2) (.sp 0 4), sDialed b.deal.ok b.deal.version e3 b.tries e4 (.sp 1 2) (.sp 1 4)] = some ⟨[B true], [], none⟩ := by rw [ho, he3, he4]; exact ok95 b tbm rfl rfl  rfl rfl 
  have m1 : o 92 [sDialed a.deal.ok a.deal.version e1 a.tries e2 (.sp 0 2) (.sp 0 4), sDialed b.deal.ok b.deal.version e3 b.tries e4 (.sp 1 2) (.sp 1 4)] = some ⟨[B w], [], none⟩ := by rw [ho, hw, he1, he2, he3, he4]; exact ok92 _ _ (by unfold Deal.Small at ra; omega) (by omega) rfl rfl rfl rfl
  have m2 : o 94 [sDialed a.deal.ok a.deal.version e1 a.tries e2 (.sp 0 2) (.sp 0 4), sDialed b.deal.ok b.deal.version e3 b.tries e4 (.sp 1 2) (.sp 1 4)] = some ⟨[B w], [], none⟩ := by rw [ho, hw, he1, he2, he3, he4]; exact ok94 _ _ (by unfold Deal.Small at ra; omega) (by omega) rfl rfl rfl rfl
  repeat' (first | (rw [ka]; cbv) | (rw [qa]; cbv) | (rw [kb]; cbv) | (rw [qb]; cbv) | (rw [m1]; cbv) | (rw [m2]; cbv) | (rw [F.ne_f rfl]; cbv) | (rw [show not (beq w w) = false by rw [F.not, F.beq]; simp]; cbv) | (rw [show not true = false by rw [F.not]; rfl]; cbv) | exact congrArg some hr)
theorem ans11 : Answers Tb md 11 [(true, [.bool, .int .i64, .row [.int .i64], .int .i64, .row [.int .i64]]), (true, [.bool, .int .i64, .row [.int .i64], .int .i64, .row [.int .i64]])] := answers_of (by
  intro vs h
  obtain ⟨a, rfl, wa⟩ := fitL_Dialed h
  intro vs h
  obtain ⟨b, rfl, wb⟩ := fitL_Dialed h
  exact law11 a wa b wb)

end Go.Vm
