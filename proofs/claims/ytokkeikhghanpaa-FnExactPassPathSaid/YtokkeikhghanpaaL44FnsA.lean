/- What the functions answer. -/
import Derived.Test.YtokkeikhghanpaaL44Tab
set_option maxHeartbeats 4000000
set_option maxRecDepth 10000
set_option linter.unusedVariables false
set_option linter.unusedSimpArgs false
namespace Go.Vm

/- laws.szIntS -/
theorem ok227 {α : Type} (f : α → List V) (l : List α) (left : Int) (h : l.length ≤ 9223372036854775807) (h1 : 0 ≤ left) (h2 : left ≤ 1048576) {f0 : Fl} (h0 : inFl f0 = true) : fix Tb md 227 [R (row f l) f0, I left] = some ⟨[I (sz1 l.length left)], [], none⟩ := by
  by_cases hl : left - l.length < 0
  · rw [show sz1 l.length left = -1 by unfold sz1; rw [if_pos hl]]
    refine fix_fn (fn := ir227) tb_227 rfl rfl (by decide) rfl ?_; simp only [shutArgs, shutS, List.map_cons, List.map_nil, ir227, shut_in h0, List.head?_nil, reduceCtorEq, if_false, sExt, sHello, sAnswer, sEdit, sDeal, sBox, sDialed, sKnown]
    generalize hr : (⟨_, [], none⟩ : Ret) = r
    obtain ⟨ea, hea⟩ : ∃ y_, y_ = row f l := ⟨_, rfl⟩
    rw [← hea]
    intro add sub mul arith eq ne lt le gt ge neg conv mn mx not beq len at' ln bd cut app allS isNil mks set o hP F ho
    have le := F.len_at hea
    unfold At at le
    have hs : lt (sub .i64 left (len ea)) 0 = true := by rw [F.lt, F.sub, le, wrap64 (by omega) (by omega)]; simp; omega
    cbv
    rw [hs]
    cbv
    exact congrArg some hr
  · rw [show sz1 l.length left = left - l.length by unfold sz1; rw [if_neg hl]]
    refine fix_fn (fn := ir227) tb_227 rfl rfl (by decide) rfl ?_; simp only [shutArgs, shutS, List.map_cons, List.map_nil, ir227, shut_in h0, List.head?_nil, reduceCtorEq, if_false, sExt, sHello, sAnswer, sEdit, sDeal, sBox, sDialed, sKnown]
    obtain ⟨v, hv⟩ : ∃ y_, y_ = left - l.length := ⟨_, rfl⟩
    rw [← hv]
    generalize hr : (⟨_, [], none⟩ : Ret) = r
    obtain ⟨ea, hea⟩ : ∃ y_, y_ = row f l := ⟨_, rfl⟩
    rw [← hea]
    intro add sub mul arith eq ne lt le gt ge neg conv mn mx not beq len at' ln bd cut app allS isNil mks set o hP F ho
    have le := F.len_at hea
    unfold At at le
    have e1 : sub .i64 left (len ea) = v := by rw [F.sub, le, wrap64 (by omega) (by omega), hv]
    have hs : lt v 0 = false := by rw [F.lt, hv]; simp; omega
    cbv
    rw [e1, hs]
    cbv
    exact congrArg some hr

/- laws.szBox -/
theorem ok56 (x : Box) (left : Int) (w : x.Fits) (h1 : 0 ≤ left) (h2 : left ≤ 1048576) {f0 f1 : Fl} (q0 : inFl f0 = true) (q1 : inFl f1 = true) :
    fix Tb md 56 [sBox x.limit (row fI x.drops) (row fI x.strips) x.lists f0 f1, I left] = some ⟨[I (szBox x left)], [], none⟩ := by
  refine fix_fn (fn := ir56) tb_56 rfl rfl (by decide) rfl ?_; simp only [shutArgs, shutS, List.map_cons, List.map_nil, ir56, shut_in q0, shut_in q1, List.head?_nil, reduceCtorEq, if_false, sExt, sHello, sAnswer, sEdit, sDeal, sBox, sDialed, sKnown]
  obtain ⟨v1, hv1⟩ : ∃ y_, y_ = sz1 x.drops.length left := ⟨_, rfl⟩
  obtain ⟨v2, hv2⟩ : ∃ y_, y_ = sz1 x.strips.length v1 := ⟨_, rfl⟩
  rw [show szBox x left = v2 by rw [hv2, hv1]; rfl]
  generalize hr : (⟨_, [], none⟩ : Ret) = r
  obtain ⟨e1, he1⟩ : ∃ y_, y_ = row fI x.drops := ⟨_, rfl⟩
  obtain ⟨e2, he2⟩ : ∃ y_, y_ = row fI x.strips := ⟨_, rfl⟩
  rw [← he1, ← he2]
  have g1 : v1 ≤ 1048576 := by rw [hv1]; exact (Sz.of1 x.drops.length).up h2
  have l1 : -1 ≤ v1 := by rw [hv1]; exact (Sz.of1 x.drops.length).lo _ h2
  have g2 : v2 ≤ 1048576 := by rw [hv2]; exact (Sz.of1 x.strips.length).up g1
  have l2 : -1 ≤ v2 := by rw [hv2]; exact (Sz.of1 x.strips.length).lo _ g1
  have n2 : v1 < 0 → v2 = -1 := fun q => by rw [hv2]; exact (Sz.of1 x.strips.length).neg _ q
  unfold Box.Fits at w
  intro add sub mul arith eq ne lt le gt ge neg conv mn mx not beq len at' ln bd cut app allS isNil mks set o hP F ho
  have c1 : o 227 [R e1 (.sp 0 0), I left] = some ⟨[I v1], [], none⟩ := by rw [ho, hv1, he1]; exact ok227 fI _ _ w.2.1.1 h1 h2 rfl
  have c2 : 0 ≤ v1 → o 227 [R e2 (.sp 0 0), I v1] = some ⟨[I v2], [], none⟩ := by intro q; rw [ho, hv2, he2]; exact ok227 fI _ _ w.2.2.1 q g1 rfl
  cbv
  rw [c1]; cbv
  refine both (fun d1 => ?_) (fun d1 => ?_) <;> rw [d1] <;> cbv
  · clear hP c1 c2 ho; simp only [F.lt, decide_eq_true_eq] at d1; clear F; rw [← hr, show v2 = -1 by omega]
  rw [c2 (by simp only [F.lt, decide_eq_false_iff_not] at d1; omega)]; cbv
  refine both (fun d2 => ?_) (fun d2 => ?_) <;> rw [d2] <;> cbv
  · clear hP c1 c2 ho; simp only [F.lt, decide_eq_true_eq] at d2; clear F; rw [← hr, show v2 = -1 by omega]
  exact congrArg some hr

/- laws.szBoxS -/
theorem ok101 (l : List Box) (left : Int) (w : l.length ≤ 9223372036854775807 ∧ ∀ y ∈ l, y.Fits) (h1 : 0 ≤ left) (h2 : left ≤ 1048576) {f0 : Fl} (q0 : inFl f0 = true) :
    fix Tb md 101 [R (row fBox l) f0, I left] = some ⟨[I (szL szBox l left)], [], none⟩ := by
  have w1 := w.1
  by_cases hl : left - l.length < 0
  · rw [show szL szBox l left = -1 from szF_neg szBox_Sz l _ (by unfold sz1; rw [if_pos hl])]
    refine fix_fn (fn := ir101) tb_101 rfl rfl (by decide) rfl ?_; simp only [shutArgs, shutS, List.map_cons, List.map_nil, ir101, shut_in q0, List.head?_nil, reduceCtorEq, if_false, sExt, sHello, sAnswer, sEdit, sDeal, sBox, sDialed, sKnown]
    generalize hr : (⟨_, [], none⟩ : Ret) = r
    obtain ⟨ea, hea⟩ : ∃ y_, y_ = row fBox l := ⟨_, rfl⟩
    rw [← hea]
    intro add sub mul arith eq ne lt le gt ge neg conv mn mx not beq len at' ln bd cut app allS isNil mks set o hP F ho
    have le := F.len_at hea
    unfold At at le
    have hs : lt (sub .i64 left (len ea)) 0 = true := by rw [F.lt, F.sub, le, wrap64 (by omega) (by omega)]; simp; omega
    cbv
    rw [hs]
    cbv
    exact congrArg some hr
  · have hT : szL szBox l left = l.foldl (fun a x => szBox x a) (left - l.length) := by unfold szL sz1; rw [if_neg hl]
    rw [hT]
    refine fix_fn (fn := ir101) tb_101 rfl rfl (by decide) rfl ?_; simp only [shutArgs, shutS, List.map_cons, List.map_nil, ir101, shut_in q0, List.head?_nil, reduceCtorEq, if_false, sExt, sHello, sAnswer, sEdit, sDeal, sBox, sDialed, sKnown]
    obtain ⟨v, hv⟩ : ∃ y_, y_ = left - l.length := ⟨_, rfl⟩
    rw [← hv]
    have u3 : 0 ≤ v := by omega
    have u4 : v ≤ 1048576 := by omega
    have u5 : l.length ≤ 1048576 := by omega
    obtain ⟨T, hT⟩ : ∃ y_, y_ = l.foldl (fun a x => szBox x a) v := ⟨_, rfl⟩
    rw [← hT]
    generalize hr : (⟨_, [], none⟩ : Ret) = r
    obtain ⟨ea, hea⟩ : ∃ y_, y_ = row fBox l := ⟨_, rfl⟩
    rw [← hea]
    intro add sub mul arith eq ne lt le gt ge neg conv mn mx not beq len at' ln bd cut app allS isNil mks set o hP F ho
    have le := F.len_at hea
    have e1 : sub .i64 left (len ea) = v := by unfold At at le; rw [F.sub, le, wrap64 (by omega) (by omega), hv]
    have hs : lt v 0 = false := by rw [F.lt, hv]; simp; omega
    cbv
    rw [e1, hs]
    cbv
    refine loop_ind hP (σ := List (Box) × List (Box) × Int × Int) (fun s => [(0, R ea .sh), (1, I s.2.2.1), (4, I 0), (5, I s.2.2.2)])
      (fun s => At s.2.2.2 s.2.1.length ∧ l = s.2.1 ++ s.1 ∧ 0 ≤ s.2.2.1 ∧ s.2.2.1 ≤ 1048576 ∧ s.1.foldl (fun a x => szBox x a) s.2.2.1 = T) (fun s => s.1.length) (l, [], v, 0) rfl ⟨rfl, rfl, u3, u4, hT.symm⟩ ?_
    rintro ⟨suf, pre, a, i⟩ ⟨hi, hl', ha0, ha1, hf⟩ ih
    simp only at hi hl' ha0 ha1 hf ih
    cbv
    cases suf with
    | nil =>
      rw [F.lt_f hi le (by simp [hl'])]; cbv
      simp only [List.foldl_nil] at hf
      rw [← hr, hf]
    | cons x suf =>
      rw [F.lt_t hi le (by simp [hl'])]; cbv
      rw [List.foldl_cons] at hf
      obtain ⟨e1, he1⟩ : ∃ y_, y_ = row fI x.drops := ⟨_, rfl⟩
      obtain ⟨e2, he2⟩ : ∃ y_, y_ = row fI x.strips := ⟨_, rfl⟩
      obtain ⟨ix, hix⟩ : ∃ y_, y_ = pre.length * 4 := ⟨_, rfl⟩
      rw [show at' 4 ea i = some (ix, [.int .i64 x.limit, .row () e1, .row () e2, .bool x.lists]) by rw [hix, he1, he2]; exact F.get hi hea hl' (fun _ => rfl) (by decide)]; cbv
      obtain ⟨a', ha'⟩ : ∃ y_, y_ = szBox x a := ⟨_, rfl⟩
      rw [← ha'] at hf
      have u1 : a' ≤ 1048576 := by rw [ha']; exact (szBox_Sz x).up ha1
      have u2 : -1 ≤ a' := by rw [ha']; exact (szBox_Sz x).lo _ ha1
      have c1 : o 56 [sBox x.limit e1 e2 x.lists (.sp 0 1) (.sp 0 2), I a] = some ⟨[I a'], [], none⟩ := by rw [ho, ha', he1, he2]; exact ok56 x a (w.2 x (by rw [hl']; simp)) ha0 ha1 rfl rfl
      rw [c1]; cbv
      refine both (fun c => ?_) (fun c => ?_) <;> rw [c] <;> cbv
      · simp only [F.lt, decide_eq_true_eq] at c
        rw [← hr, ← hf, szF_neg szBox_Sz suf a' (by omega)]
      · simp only [F.lt, decide_eq_false_iff_not] at c
        refine ih (suf, pre ++ [x], a', add .i64 i 1) ⟨at_len (F.inc hi (by simp [hl'] at u5; omega)) (by simp), by simp [hl'], by simp only; omega, u1, hf⟩ (by simp)

/- laws.toIntS -/
theorem ok76 (l : List Int) (hl : l.length ≤ 1099511627776) {f0 : Fl} (h0 : inFl f0 = true) : fix Tb md 76 [R (row fI l) f0] = some ⟨[R (row fI l) (.ow false)], [], none⟩ := by
  refine fix_fn (fn := ir76) tb_76 rfl rfl (by decide) rfl ?_; simp only [shutArgs, shutS, List.map_cons, List.map_nil, ir76, shut_in h0, List.head?_nil, reduceCtorEq, if_false, sExt, sHello, sAnswer, sEdit, sDeal, sBox, sDialed, sKnown]
  generalize hr : (⟨_, [], none⟩ : Ret) = r
  obtain ⟨e1, he1⟩ : ∃ y_, y_ = row fI l := ⟨_, rfl⟩
  rw [← he1] at hr ⊢
  intro add sub mul arith eq ne lt le gt ge neg conv mn mx not beq len at' ln bd cut app allS isNil mks set o hP F ho
  have la := F.len_at he1
  cbv
  obtain ⟨e2, he2⟩ : ∃ y_, y_ = row fI (List.replicate l.length 0) := ⟨_, rfl⟩
  rw [show mks [.int .i64 0] (len e1) (len e1) = some e2 by rw [F.mks, show len e1 = _ from la, he2]; exact row_mk (f := fI) (a := 0) rfl (by simp [fI]) hl]; cbv
  refine loop_ind hP (σ := List Int × List Int × List (List V) × Int) (fun s => [(0, R e1 .sh), (2, R [] .nl), (3, R s.2.2.1 (.ow false)), (4, I s.2.2.2)])
    (fun s => At s.2.2.2 s.2.1.length ∧ l = s.2.1 ++ s.1 ∧ s.2.2.1 = row fI (s.2.1 ++ List.replicate s.1.length 0)) (fun s => s.1.length) (l, [], e2, 0) rfl ⟨rfl, rfl, by simpa using he2⟩ ?_
  rintro ⟨suf, pre, eo, i⟩ ⟨hi, hl', heo⟩ ih
  simp only at hi hl' heo ih
  cbv
  cases suf with
  | nil =>
    rw [F.lt_f hi la (by simp [hl'])]; cbv
    rw [← hr, heo, he1, hl']; simp
  | cons x suf =>
    rw [F.lt_t hi la (by simp [hl'])]; cbv
    obtain ⟨ix, hix⟩ : ∃ y_, y_ = pre.length * 1 := ⟨_, rfl⟩
    rw [show at' 1 e1 i = some (ix, [.int .i64 x]) by rw [hix]; exact F.get hi he1 hl' (fun _ => rfl) (by decide)]; cbv
    rw [show at' 1 eo i = some (ix, [.int .i64 0]) by rw [hix]; exact F.get hi heo rfl (fun _ => rfl) (by decide)]; cbv
    obtain ⟨eo', heo'⟩ : ∃ y_, y_ = row fI (pre ++ x :: List.replicate suf.length 0) := ⟨_, rfl⟩
    rw [show set eo ix [.int .i64 x] = some eo' by rw [F.set, heo, hix, heo']; exact set_one (fun _ => rfl) rfl]; cbv
    refine ih (suf, pre ++ [x], eo', add .i64 i 1) ⟨at_len (F.inc hi (by simp [hl'] at hl; omega)) (by simp), by simp [hl'], by simp [heo']⟩ (by simp)

/- laws.toBox -/
theorem ok58 (x : Box) (w : x.Mid) {f0 f1 : Fl} (q0 : inFl f0 = true) (q1 : inFl f1 = true) :
    fix Tb md 58 [sBox x.limit (row fI x.drops) (row fI x.strips) x.lists f0 f1] = some ⟨[sBox x.limit (row fI x.drops) (row fI x.strips) x.lists (.ow false) (.ow false)], [], none⟩ := by
  refine fix_fn (fn := ir58) tb_58 rfl rfl (by decide) rfl ?_; simp only [shutArgs, shutS, List.map_cons, List.map_nil, ir58, shut_in q0, shut_in q1, List.head?_nil, reduceCtorEq, if_false, sExt, sHello, sAnswer, sEdit, sDeal, sBox, sDialed, sKnown]
  generalize hr : (⟨_, [], none⟩ : Ret) = r
  obtain ⟨e1, he1⟩ : ∃ y_, y_ = row fI x.drops := ⟨_, rfl⟩
  obtain ⟨e2, he2⟩ : ∃ y_, y_ = row fI x.strips := ⟨_, rfl⟩
  rw [← he1, ← he2] at hr ⊢
  unfold Box.Mid at w
  intro add sub mul arith eq ne lt le gt ge neg conv mn mx not beq len at' ln bd cut app allS isNil mks set o hP F ho
  have c1 : o 76 [R e1 (.sp 0 0)] = some ⟨[R e1 (.ow false)], [], none⟩ := by rw [ho, he1]; exact ok76 _ (by have := w.1; omega) rfl
  have c2 : o 76 [R e2 (.sp 0 0)] = some ⟨[R e2 (.ow false)], [], none⟩ := by rw [ho, he2]; exact ok76 _ (by have := w.2; omega) rfl
  cbv
  rw [c1]; cbv
  rw [c2]; cbv
  exact congrArg some hr

/- laws.toBoxS -/
theorem ok103 (l : List (Box)) (w : l.length ≤ 1073741824 ∧ ∀ y ∈ l, y.Mid) {f0 : Fl} (q0 : inFl f0 = true) :
    fix Tb md 103 [R (row fBox l) f0] = some ⟨[R (row fBox l) (.ow false)], [], none⟩ := by
  have w1 := w.1
  refine fix_fn (fn := ir103) tb_103 rfl rfl (by decide) rfl ?_; simp only [shutArgs, shutS, List.map_cons, List.map_nil, ir103, shut_in q0, List.head?_nil, reduceCtorEq, if_false, sExt, sHello, sAnswer, sEdit, sDeal, sBox, sDialed, sKnown]
  generalize hr : (⟨_, [], none⟩ : Ret) = r
  obtain ⟨ea, hea⟩ : ∃ y_, y_ = row fBox l := ⟨_, rfl⟩
  rw [← hea] at hr ⊢
  intro add sub mul arith eq ne lt le gt ge neg conv mn mx not beq len at' ln bd cut app allS isNil mks set o hP F ho
  have la := F.len_at hea
  cbv
  obtain ⟨e0, he0⟩ : ∃ y_, y_ = row fBox (List.replicate l.length (⟨0, [], [], false⟩ : Box)) := ⟨_, rfl⟩
  rw [show mks [.int .i64 0, .row () [], .row () [], .bool false] (len ea) (len ea) = some e0 by rw [F.mks, show len ea = _ from la, he0]; exact row_mk (f := fBox) (a := (⟨0, [], [], false⟩ : Box)) rfl (by simp [fBox]) (show l.length ≤ 1099511627776 by omega)]; cbv
  refine loop_ind hP (σ := List (Box) × List (Box) × List (List V) × Int) (fun s => [(0, R ea .sh), (2, R [] .nl), (3, R s.2.2.1 (.ow false)), (4, I s.2.2.2)])
    (fun s => At s.2.2.2 s.2.1.length ∧ l = s.2.1 ++ s.1 ∧ s.2.2.1 = row fBox (s.2.1 ++ List.replicate s.1.length (⟨0, [], [], false⟩ : Box))) (fun s => s.1.length) (l, [], e0, 0) rfl ⟨rfl, rfl, by simpa using he0⟩ ?_
  rintro ⟨suf, pre, eo, i⟩ ⟨hi, hl', heo⟩ ih
  simp only at hi hl' heo ih
  cbv
  cases suf with
  | nil =>
    rw [F.lt_f hi la (by simp [hl'])]; cbv
    rw [← hr, heo, hea, hl']; simp
  | cons x suf =>
    rw [F.lt_t hi la (by simp [hl'])]; cbv
    obtain ⟨e1, he1⟩ : ∃ y_, y_ = row fI x.drops := ⟨_, rfl⟩
    obtain ⟨e2, he2⟩ : ∃ y_, y_ = row fI x.strips := ⟨_, rfl⟩
    obtain ⟨ix, hix⟩ : ∃ y_, y_ = pre.length * 4 := ⟨_, rfl⟩
    rw [show at' 4 ea i = some (ix, [.int .i64 x.limit, .row () e1, .row () e2, .bool x.lists]) by rw [hix, he1, he2]; exact F.get hi hea hl' (fun _ => rfl) (by decide)]; cbv
    have c1 : o 58 [sBox x.limit e1 e2 x.lists (.sp 0 1) (.sp 0 2)] = some ⟨[sBox x.limit e1 e2 x.lists (.ow false) (.ow false)], [], none⟩ := by rw [ho, he1, he2]; exact ok58 x (w.2 x (by rw [hl']; simp)) rfl rfl
    rw [c1]; cbv
    rw [show at' 4 eo i = some (ix, [.int .i64 0, .row () [], .row () [], .bool false]) by rw [hix]; exact F.get hi heo rfl (fun _ => rfl) (by decide)]; cbv
    obtain ⟨eo', heo'⟩ : ∃ y_, y_ = row fBox (pre ++ x :: List.replicate suf.length (⟨0, [], [], false⟩ : Box)) := ⟨_, rfl⟩
    rw [show set eo ix [.int .i64 x.limit, .row () e1, .row () e2, .bool x.lists] = some eo' by rw [F.set, heo, hix, heo', he1, he2]; exact set_all (fun _ => rfl) rfl]; cbv
    refine ih (suf, pre ++ [x], eo', add .i64 i 1) ⟨at_len (F.inc hi (by simp [hl'] at w1; omega)) (by simp), by simp [hl'], by simp [heo']⟩ (by simp)

/- laws.eqIntS -/
theorem ok79 (a b : List Int) (hl : a.length ≤ 1099511627776) {f0 f1 : Fl} (h0 : inFl f0 = true) (h1 : inFl f1 = true) : fix Tb md 79 [R (row fI a) f0, R (row fI b) f1] = some ⟨[B (decide (a = b))], [], none⟩ := by
  refine fix_fn (fn := ir79) tb_79 rfl rfl (by decide) rfl ?_; simp only [shutArgs, shutS, List.map_cons, List.map_nil, ir79, shut_in h0, shut_in h1, List.head?_nil, reduceCtorEq, if_false, sExt, sHello, sAnswer, sEdit, sDeal, sBox, sDialed, sKnown]
  generalize hr : (⟨_, [], none⟩ : Ret) = r
  obtain ⟨ea, hea⟩ : ∃ y_, y_ = row fI a := ⟨_, rfl⟩
  obtain ⟨eb, heb⟩ : ∃ y_, y_ = row fI b := ⟨_, rfl⟩
  rw [← hea, ← heb]
  intro add sub mul arith eq ne lt le gt ge neg conv mn mx not beq len at' ln bd cut app allS isNil mks set o hP F ho
  have la := F.len_at hea
  have lb := F.len_at heb
  cbv
  by_cases hab : a.length = b.length
  · rw [F.ne_f (by unfold At at la lb; omega)]; cbv
    refine loop_ind hP (σ := List Int × List Int × List Int × Int) (fun s => [(0, R ea .sh), (1, R eb .sh), (4, B false), (5, I s.2.2.2)]) (fun s => At s.2.2.2 s.1.length ∧ a = s.1 ++ s.2.1 ∧ b = s.1 ++ s.2.2.1) (fun s => s.2.1.length) ([], a, b, 0) rfl ⟨rfl, rfl, rfl⟩ ?_
    rintro ⟨pre, sa, sb, i⟩ ⟨hi, ha, hb⟩ ih
    simp only at hi ha hb ih
    cbv
    have hlen : sa.length = sb.length := by simp [ha, hb] at hab; exact hab
    match sa, sb, hlen, ha, hb with
    | [], [], _, ha, hb =>
      rw [F.lt_f hi la (by simp [ha])]; cbv
      rw [← hr]; simp [ha, hb]
    | x :: sa, y :: sb, _, ha, hb =>
      rw [F.lt_t hi la (by simp [ha])]; cbv
      obtain ⟨ix, hix⟩ : ∃ y_, y_ = pre.length * 1 := ⟨_, rfl⟩
      rw [show at' 1 ea i = some (ix, [.int .i64 x]) by rw [hix]; exact F.get hi hea ha (fun _ => rfl) (by decide)]; cbv
      rw [show at' 1 eb i = some (ix, [.int .i64 y]) by rw [hix]; exact F.get hi heb hb (fun _ => rfl) (by decide)]; cbv
      by_cases hxy : x = y
      · rw [F.ne_f hxy]; cbv
        refine ih (pre ++ [x], sa, sb, add .i64 i 1) ⟨at_len (F.inc hi (by simp [ha] at hl; omega)) (by simp), by simp [ha], by simp [hb, hxy]⟩ (by simp)
      · rw [F.ne_t hxy]; cbv
        rw [← hr]; simp [ha, hb, hxy]
  · rw [F.ne_t (by unfold At at la lb; omega)]; cbv
    rw [← hr]
    simp
    intro e; exact hab (by rw [e])
theorem ok79t (a : List Int) (hl : a.length ≤ 1099511627776) {f0 f1 : Fl} (h0 : inFl f0 = true) (h1 : inFl f1 = true) : fix Tb md 79 [R (row fI a) f0, R (row fI a) f1] = some ⟨[B true], [], none⟩ := by simpa using ok79 a a hl h0 h1

/- laws.eqBox -/
theorem ok60 (x : Box) (w : x.Mid) {f0 f1 : Fl} (q0 : inFl f0 = true) (q1 : inFl f1 = true) {g0 g1 : Fl} (p0 : inFl g0 = true) (p1 : inFl g1 = true) :
    fix Tb md 60 [sBox x.limit (row fI x.drops) (row fI x.strips) x.lists f0 f1, sBox x.limit (row fI x.drops) (row fI x.strips) x.lists g0 g1] = some ⟨[B true], [], none⟩ := by
  refine fix_fn (fn := ir60) tb_60 rfl rfl (by decide) rfl ?_; simp only [shutArgs, shutS, List.map_cons, List.map_nil, ir60, shut_in q0, shut_in q1, shut_in p0, shut_in p1, List.head?_nil, reduceCtorEq, if_false, sExt, sHello, sAnswer, sEdit, sDeal, sBox, sDialed, sKnown]
  generalize hr : (⟨_, [], none⟩ : Ret) = r
  obtain ⟨e1, he1⟩ : ∃ y_, y_ = row fI x.drops := ⟨_, rfl⟩
  obtain ⟨e2, he2⟩ : ∃ y_, y_ = row fI x.strips := ⟨_, rfl⟩
  rw [← he1, ← he2]
  unfold Box.Mid at w
  intro add sub mul arith eq ne lt le gt ge neg conv mn mx not beq len at' ln bd cut app allS isNil mks set o hP F ho
  have c1 : o 79 [R e1 (.sp 0 0), R e1 (.sp 1 0)] = some ⟨[B true], [], none⟩ := by rw [ho, he1]; exact ok79t _ (by have := w.1; omega) rfl rfl
  have c2 : o 79 [R e2 (.sp 0 0), R e2 (.sp 1 0)] = some ⟨[B true], [], none⟩ := by rw [ho, he2]; exact ok79t _ (by have := w.2; omega) rfl rfl
  cbv
  rw [F.ne_f rfl]; cbv
  rw [c1]; cbv
  rw [show not true = false by rw [F.not]; rfl]; cbv
  rw [c2]; cbv
  rw [show not true = false by rw [F.not]; rfl]; cbv
  rw [show not (beq x.lists x.lists) = false by rw [F.not, F.beq]; simp]; cbv
  exact congrArg some hr

/- laws.eqBoxS -/
theorem ok105 (l : List (Box)) (w : l.length ≤ 1073741824 ∧ ∀ y ∈ l, y.Mid) {f0 f1 : Fl} (q0 : inFl f0 = true) (q1 : inFl f1 = true) :
    fix Tb md 105 [R (row fBox l) f0, R (row fBox l) f1] = some ⟨[B true], [], none⟩ := by
  have w1 := w.1
  refine fix_fn (fn := ir105) tb_105 rfl rfl (by decide) rfl ?_; simp only [shutArgs, shutS, List.map_cons, List.map_nil, ir105, shut_in q0, shut_in q1, List.head?_nil, reduceCtorEq, if_false, sExt, sHello, sAnswer, sEdit, sDeal, sBox, sDialed, sKnown]
  generalize hr : (⟨_, [], none⟩ : Ret) = r
  obtain ⟨ea, hea⟩ : ∃ y_, y_ = row fBox l := ⟨_, rfl⟩
  rw [← hea]
  intro add sub mul arith eq ne lt le gt ge neg conv mn mx not beq len at' ln bd cut app allS isNil mks set o hP F ho
  have la := F.len_at hea
  cbv
  rw [F.ne_f rfl]; cbv
  refine loop_ind hP (σ := List (Box) × List (Box) × Int) (fun s => [(0, R ea .sh), (1, R ea .sh), (4, B false), (5, I s.2.2)])
    (fun s => At s.2.2 s.2.1.length ∧ l = s.2.1 ++ s.1) (fun s => s.1.length) (l, [], 0) rfl ⟨rfl, rfl⟩ ?_
  rintro ⟨suf, pre, i⟩ ⟨hi, hl'⟩ ih
  simp only at hi hl' ih
  cbv
  cases suf with
  | nil =>
    rw [F.lt_f hi la (by simp [hl'])]; cbv
    exact congrArg some hr
  | cons x suf =>
    rw [F.lt_t hi la (by simp [hl'])]; cbv
    obtain ⟨e1, he1⟩ : ∃ y_, y_ = row fI x.drops := ⟨_, rfl⟩
    obtain ⟨e2, he2⟩ : ∃ y_, y_ = row fI x.strips := ⟨_, rfl⟩
    obtain ⟨ix, hix⟩ : ∃ y_, y_ = pre.length * 4 := ⟨_, rfl⟩
    have a1 : at' 4 ea i = some (ix, [.int .i64 x.limit, .row () e1, .row () e2, .bool x.lists]) := by rw [hix, he1, he2]; exact F.get hi hea hl' (fun _ => rfl) (by decide)
    rw [a1]; cbv
    try (rw [a1]; cbv)
    have c1 : o 60 [sBox x.limit e1 e2 x.lists (.sp 0 1) (.sp 0 2), sBox x.limit e1 e2 x.lists (.sp 1 1) (.sp 1 2)] = some ⟨[B true], [], none⟩ := by rw [ho, he1, he2]; exact ok60 x (w.2 x (by rw [hl']; simp)) rfl rfl rfl rfl
    rw [c1]; cbv
    rw [show not true = false by rw [F.not]; rfl]; cbv
    refine ih (suf, pre ++ [x], add .i64 i 1) ⟨at_len (F.inc hi (by simp [hl'] at w1; omega)) (by simp), by simp [hl']⟩ (by simp)

/-- a number so many places behind k -/
def AtK (x k : Int) (n : Nat) : Prop := x = k + (n : Int)
def Lim (k : Int) (n : Nat) : Prop := 0 ≤ k ∧ k + (n : Int) ≤ 4611686018427387904
theorem AtK.zero {k : Int} : AtK k k 0 := by unfold AtK; simp
theorem AtK.one {x k : Int} {n : Nat} (h : AtK x k n) : AtK (x + 1) k (n + 1) := by unfold AtK at *; omega
theorem AtK.plus {x k : Int} {n m : Nat} (h : AtK x k n) : AtK (x + (m : Int)) k (n + m) := by unfold AtK at *; omega
theorem AtK.eq {x k : Int} {n m : Nat} (h : AtK x k n) (e : n = m) : AtK x k m := e ▸ h
theorem AtK.same {x k : Int} {n : Nat} (h : AtK x k n) : x = k + (n : Int) := h
theorem AtK.lim {x k : Int} {n m q : Nat} (h : AtK x k n) (l : Lim k q) (e : n + m ≤ q) : Lim x m := by unfold AtK Lim at *; omega
theorem Lim.nn {k : Int} {n : Nat} (l : Lim k n) : 0 ≤ k := l.1
theorem AtK.inc {x k : Int} {n q : Nat} (h : AtK x k n) (l : Lim k q) (e : n ≤ q) : IntKind.wrap .i64 (x + 1) = x + 1 := by unfold AtK Lim at *; exact wrap64 (by omega) (by omega)
theorem Lim.le {k : Int} {n m : Nat} (l : Lim k n) (e : m ≤ n) : Lim k m := by unfold Lim at *; omega
theorem sum_le {α : Type} {c : α → Nat} {B : Nat} : ∀ {l : List α}, (∀ y ∈ l, c y ≤ B) → (l.map c).sum ≤ l.length * B
  | [], _ => by simp
  | x :: l, h => by
    have h1 := h x (by simp)
    have h2 := sum_le (l := l) (fun y hy => h y (by simp [hy]))
    simp only [List.map_cons, List.sum_cons, List.length_cons, Nat.succ_mul]
    omega
theorem Lim.of1 {n : Nat} (h : n ≤ 4611686018427387903) : Lim 1 n := ⟨by decide, by omega⟩
/-- numbers written into a row from k on -/
def mI : List Int → Int → List Int
  | [], _ => []
  | _ :: l, k => k :: mI l (k + 1)
theorem mI_len : ∀ (l : List Int) (k : Int), (mI l k).length = l.length
  | [], _ => rfl
  | _ :: l, k => by simp [mI, mI_len l (k + 1)]
theorem mI_app : ∀ (a b : List Int) (k x : Int), AtK x k a.length → mI (a ++ b) k = mI a k ++ mI b x
  | [], b, k, x, h => by simp [AtK] at h; subst h; simp [mI]
  | y :: a, b, k, x, h => by
    simp only [List.cons_append, mI]
    rw [mI_app a b (k + 1) x (by unfold AtK at *; simp at h; omega)]
theorem set_fld {α : Type} {pre suf : List α} {f : α → List V} {k : Nat} {x y : α} {j : Nat} {v : V} {ix : Nat} (hk : ∀ a, (f a).length = k) (hj : j < k) (hy : f y = (f x).set j v) (hix : ix = pre.length * k) : setFlat (row f (pre ++ x :: suf)) (ix + j) [v] = some (row f (pre ++ y :: suf)) := by
  have := set_raw (k := k) [v] j (row f pre) (f x) (row f suf) (by intro a ha; obtain ⟨b, _, rfl⟩ := List.mem_map.1 ha; exact hk b) (hk x) (by simp; omega)
  rw [row_len] at this
  subst hix
  rw [show row f (pre ++ x :: suf) = row f pre ++ f x :: row f suf by simp [row], this]
  have e : (f x).take j ++ [v] ++ (f x).drop (j + [v].length) = f y := by
    rw [hy, List.set_eq_take_append_cons_drop, if_pos (by rw [hk]; exact hj)]; simp
  rw [e]
  simp [row]

/- laws.markIntS -/
theorem ok1080 (l : List Int) (k : Int) (hk : Lim k l.length) (hl : l.length ≤ 1099511627776) : fix Tb md 1080 [R (row fI l) (.mp 0), I k] = some ⟨[I (k + (l.length : Int))], [.row () (row fI (mI l k))], none⟩ := by
  obtain ⟨t, ht⟩ : ∃ y_, y_ = k + (l.length : Int) := ⟨_, rfl⟩
  obtain ⟨et, het⟩ : ∃ y_, y_ = row fI (mI l k) := ⟨_, rfl⟩
  have hT : AtK t k l.length := ht
  rw [← ht, ← het]
  clear ht
  refine fix_fn (fn := ir1080) tb_1080 rfl rfl (by decide) rfl ?_
  generalize hr : (⟨_, [_], none⟩ : Ret) = r
  obtain ⟨ea, hea⟩ : ∃ y_, y_ = row fI l := ⟨_, rfl⟩
  rw [← hea]
  intro add sub mul arith eq ne lt le gt ge neg conv mn mx not beq len at' ln bd cut app allS isNil mks set o hP F ho
  have la := F.len_at hea
  cbv
  refine loop_ind hP (σ := List Int × List Int × List (List V) × Int × Int) (fun s => [(0, R s.2.2.1 (.mp 0)), (1, I s.2.2.2.1), (4, I 0), (5, I s.2.2.2.2)])
    (fun s => At s.2.2.2.2 s.2.1.length ∧ AtK s.2.2.2.1 k s.2.1.length ∧ l = s.2.1 ++ s.1 ∧ s.2.2.1 = row fI (mI s.2.1 k ++ s.1)) (fun s => s.1.length) (l, [], ea, k, 0) rfl ⟨rfl, AtK.zero, rfl, by simpa [mI] using hea⟩ ?_
  rintro ⟨suf, pre, eo, x, i⟩ ⟨hi, hx, hl', heo⟩ ih
  simp only at hi hx hl' heo ih
  have lo := F.len_at heo
  cbv
  cases suf with
  | nil =>
    rw [F.lt_f hi lo (by simp [mI_len])]; cbv
    rw [← hr, show x = t by rw [hx.same, hT.same, hl']; simp, heo, het, hl']; simp
  | cons y suf =>
    have hl3 : pre.length + 1 ≤ l.length := by rw [hl']; simp
    have a1 : add .i64 x 1 = x + 1 := by rw [F.add, hx.inc hk (by omega)]
    rw [F.lt_t hi lo (by simp [mI_len])]; cbv
    obtain ⟨ix, hix⟩ : ∃ y_, y_ = pre.length * 1 := ⟨_, rfl⟩
    rw [show at' 1 eo i = some (ix, [.int .i64 y]) by rw [hix]; have h := F.get (f := fI) (k := 1) (show At i (mI pre k).length by rw [mI_len]; exact hi) heo rfl (fun _ => rfl) (by decide); rw [mI_len] at h; exact h]; cbv
    obtain ⟨eo', heo'⟩ : ∃ y_, y_ = row fI (mI pre k ++ x :: suf) := ⟨_, rfl⟩
    rw [show set eo ix [.int .i64 x] = some eo' by rw [F.set, heo, hix, heo', ← mI_len pre k]; exact set_one (fun _ => rfl) rfl]; cbv
    rw [a1]
    refine ih (suf, pre ++ [y], eo', x + 1, add .i64 i 1) ⟨at_len (F.inc hi (by omega)) (by simp), hx.one.eq (by simp), by simp [hl'], ?_⟩ (by simp)
    simp only
    rw [heo', mI_app pre [y] k x hx]; simp [mI]
theorem ok1080n (k : Int) : fix Tb md 1080 [R [] .nl, I k] = some ⟨[I k], [], none⟩ := by
  refine fix_fn (fn := ir1080) tb_1080 rfl rfl (by decide) rfl ?_
  generalize hr : (⟨_, [], none⟩ : Ret) = r
  intro add sub mul arith eq ne lt le gt ge neg conv mn mx not beq len at' ln bd cut app allS isNil mks set o hP F ho
  have la : At (len []) 0 := F.len_at (f := fI) (l := []) rfl
  have h0 : lt 0 (len []) = false := F.lt_f at0 la (Nat.le_refl 0)
  cbv
  refine loop_ind hP (σ := Unit) (fun _ => [(0, R [] .nl), (1, I k), (4, I 0), (5, I 0)]) (fun _ => True) (fun _ => 0) () rfl trivial ?_
  rintro ⟨⟩ _ ih
  clear ih
  cbv
  rw [h0]; cbv
  exact congrArg some hr

def mExt (x : Ext) (k : Int) : Ext := ⟨k, mI x.body (k + 1)⟩
def cExt (x : Ext) : Nat := 1 + x.body.length
def mExtS : List Ext → Int → List Ext
  | [], _ => []
  | x :: l, k => mExt x k :: mExtS l (k + (cExt x : Int))
def cExtS (l : List Ext) : Nat := (l.map cExt).sum
theorem mExtS_len : ∀ (l : List Ext) (k : Int), (mExtS l k).length = l.length
  | [], _ => rfl
  | _ :: l, k => by simp [mExtS, mExtS_len l _]
theorem mExtS_app : ∀ (a b : List Ext) (k x : Int), AtK x k (cExtS a) → mExtS (a ++ b) k = mExtS a k ++ mExtS b x
  | [], b, k, x, h => by simp [AtK, cExtS] at h; subst h; simp [mExtS]
  | y :: a, b, k, x, h => by
    simp only [List.cons_append, mExtS]
    rw [mExtS_app a b (k + (cExt y : Int)) x (by unfold AtK at *; simp [cExtS] at h ⊢; omega)]
theorem cExt_mid {x : Ext} (w : x.Mid) : cExt x ≤ 2147483650 := by unfold Ext.Mid at w; unfold cExt; omega
theorem cExt_small {x : Ext} (w : x.Small) : cExt x ≤ 2097154 := by unfold Ext.Small at w; unfold cExt; omega
theorem cExtS_mid {l : List Ext} (w : l.length ≤ 1073741824 ∧ ∀ y ∈ l, y.Mid) : cExtS l ≤ 2305843011361177600 :=
  Nat.le_trans (sum_le fun y hy => cExt_mid (w.2 y hy)) (Nat.mul_le_mul_right _ w.1)
theorem cExtS_small {l : List Ext} (w : l.length ≤ 1048576 ∧ ∀ y ∈ l, y.Small) : cExtS l ≤ 2199025352704 :=
  Nat.le_trans (sum_le fun y hy => cExt_small (w.2 y hy)) (Nat.mul_le_mul_right _ w.1)

/- laws.markExtS -/
set_option maxHeartbeats 2000000 in
theorem ok1201 (l : List Ext) (k : Int) (hk : Lim k (cExtS l)) (hl : l.length ≤ 1099511627776) (w0 : ∀ y ∈ l, y.body.length ≤ 1099511627776) : fix Tb md 1201 [R (row fExt l) (.mp 0), I k] = some ⟨[I (k + (cExtS l : Int))], [.row () (row fExt (mExtS l k))], none⟩ := by
  obtain ⟨t, ht⟩ : ∃ y_, y_ = k + (cExtS l : Int) := ⟨_, rfl⟩
  obtain ⟨et, het⟩ : ∃ y_, y_ = row fExt (mExtS l k) := ⟨_, rfl⟩
  have hT : AtK t k (cExtS l) := ht
  rw [← ht, ← het]
  clear ht
  refine fix_fn (fn := ir1201) tb_1201 rfl rfl (by decide) rfl ?_
  generalize hr : (⟨_, [_], none⟩ : Ret) = r
  obtain ⟨ea, hea⟩ : ∃ y_, y_ = row fExt l := ⟨_, rfl⟩
  rw [← hea]
  intro add sub mul arith eq ne lt le gt ge neg conv mn mx not beq len at' ln bd cut app allS isNil mks set o hP F ho
  cbv
  refine loop_ind hP (σ := List Ext × List Ext × List (List V) × Int × Int) (fun s => [(0, R s.2.2.1 (.mp 0)), (1, I s.2.2.2.1), (4, I 0), (5, I s.2.2.2.2)])
    (fun s => At s.2.2.2.2 s.2.1.length ∧ AtK s.2.2.2.1 k (cExtS s.2.1) ∧ l = s.2.1 ++ s.1 ∧ s.2.2.1 = row fExt (mExtS s.2.1 k ++ s.1)) (fun s => s.1.length) (l, [], ea, k, 0) rfl ⟨rfl, AtK.zero, rfl, by simpa [mExtS] using hea⟩ ?_
  rintro ⟨suf, pre, eo, z0, i⟩ ⟨hi, a0, hl', heo⟩ ih
  simp only at hi a0 hl' heo ih
  have lo := F.len_at heo
  cbv
  cases suf with
  | nil =>
    rw [F.lt_f hi lo (by simp [mExtS_len])]; cbv
    rw [← hr, show z0 = t by rw [a0.same, hT.same, hl']; simp, heo, het, hl']; simp
  | cons x suf =>
    have hl3 : pre.length + 1 ≤ l.length := by rw [hl']; simp
    have hc : cExtS l = cExtS pre + (cExt x + cExtS suf) := by rw [hl']; simp [cExtS]
    have hcx : cExt x = 1 + x.body.length := rfl
    obtain ⟨z1, hz1⟩ : ∃ y_, y_ = z0 + 1 := ⟨_, rfl⟩
    have a1 : AtK z1 k (cExtS pre + 1) := hz1 ▸ a0.one
    have s1 : add .i64 z0 1 = z1 := by rw [F.add, a0.inc hk (by omega), hz1]
    obtain ⟨z2, hz2⟩ : ∃ y_, y_ = z1 + (x.body.length : Int) := ⟨_, rfl⟩
    have a2 : AtK z2 k (cExtS pre + 1 + x.body.length) := hz2 ▸ a1.plus
    have m2 : Lim z1 x.body.length := a1.lim hk (by omega)
    have n2 : 0 ≤ z2 := by have := m2.nn; omega
    have hmx : mExt x z0 = (⟨z0, (mI x.body z1)⟩ : Ext) := by simp only [mExt, hz1, hz2]
    have hzn : z0 + (cExt x : Int) = z2 := by rw [hcx, a2.same, a0.same]; omega
    have y0 : x.body.length ≤ 1099511627776 := w0 x (by rw [hl']; simp)
    obtain ⟨e1, he1⟩ : ∃ y_, y_ = row fI x.body := ⟨_, rfl⟩
    obtain ⟨g1, hg1⟩ : ∃ y_, y_ = row fI (mI x.body z1) := ⟨_, rfl⟩
    rw [F.lt_t hi lo (by simp [mExtS_len])]; cbv
    obtain ⟨ix, hix⟩ : ∃ y_, y_ = pre.length * 2 := ⟨_, rfl⟩
    obtain ⟨eo1, heo1⟩ : ∃ y_, y_ = row fExt (mExtS pre k ++ (⟨z0, x.body⟩ : Ext) :: suf) := ⟨_, rfl⟩
    obtain ⟨eo2, heo2⟩ : ∃ y_, y_ = row fExt (mExtS pre k ++ (⟨z0, (mI x.body z1)⟩ : Ext) :: suf) := ⟨_, rfl⟩
    rw [show at' 2 eo i = some (ix, [.int .i64 x.tag, .row () e1]) by simp only [hix, he1, hg1]; have h := F.get (f := fExt) (k := 2) (show At i (mExtS pre k).length by rw [mExtS_len]; exact hi) heo rfl (fun _ => rfl) (by decide); rw [mExtS_len] at h; exact h]; cbv
    have q0 : setFlat eo (ix + 0) [.int .i64 z0] = some eo1 := by simp only [heo, heo1, he1, hg1]; exact set_fld (k := 2) (fun _ => rfl) (by decide) (by simp [fExt]) (by rw [hix, mExtS_len])
    first | rw [show set eo (ix + 0) [.int .i64 z0] = some eo1 by rw [F.set]; exact q0] | rw [show set eo (Nat.add ix 0) [.int .i64 z0] = some eo1 by rw [F.set]; exact q0] | rw [show set eo ix [.int .i64 z0] = some eo1 by rw [F.set]; exact q0] | trace_state
    cbv
    rw [s1]
    rw [show at' 2 eo1 i = some (ix, [.int .i64 z0, .row () e1]) by simp only [hix, he1, hg1]; have h := F.get (f := fExt) (k := 2) (show At i (mExtS pre k).length by rw [mExtS_len]; exact hi) heo1 rfl (fun _ => rfl) (by decide); rw [mExtS_len] at h; exact h]; cbv
    have c1 : o 1080 [R e1 (.mp 0), I z1] = some ⟨[I z2], [.row () g1], none⟩ := by rw [ho, he1, hg1, hz2]; exact ok1080 _ _ m2 y0
    rw [c1]; cbv
    have q1 : setFlat eo1 (ix + 1) [.row () g1] = some eo2 := by simp only [heo1, heo2, he1, hg1]; exact set_fld (k := 2) (fun _ => rfl) (by decide) (by simp [fExt]) (by rw [hix, mExtS_len])
    first | rw [show set eo1 (ix + 1) [.row () g1] = some eo2 by rw [F.set]; exact q1] | rw [show set eo1 (Nat.add ix 1) [.row () g1] = some eo2 by rw [F.set]; exact q1] | rw [show set eo1 ix [.row () g1] = some eo2 by rw [F.set]; exact q1] | trace_state
    cbv
    refine ih (suf, pre ++ [x], eo2, z2, add .i64 i 1) ⟨at_len (F.inc hi (by omega)) (by simp), a2.eq (by simp [cExtS, cExt] <;> omega), by simp [hl'], ?_⟩ (by simp)
    simp only
    rw [heo2, mExtS_app pre [x] k z0 a0, ← hmx]; simp [mExtS]
theorem ok1201n (k : Int) : fix Tb md 1201 [R [] .nl, I k] = some ⟨[I k], [], none⟩ := by
  refine fix_fn (fn := ir1201) tb_1201 rfl rfl (by decide) rfl ?_
  generalize hr : (⟨_, [], none⟩ : Ret) = r
  intro add sub mul arith eq ne lt le gt ge neg conv mn mx not beq len at' ln bd cut app allS isNil mks set o hP F ho
  have la : At (len []) 0 := F.len_at (f := fExt) (l := []) rfl
  have h0 : lt 0 (len []) = false := F.lt_f at0 la (Nat.le_refl 0)
  cbv
  refine loop_ind hP (σ := Unit) (fun _ => [(0, R [] .nl), (1, I k), (4, I 0), (5, I 0)]) (fun _ => True) (fun _ => 0) () rfl trivial ?_
  rintro ⟨⟩ _ ih
  clear ih
  cbv
  rw [h0]; cbv
  exact congrArg some hr

def wHello (x : Hello) (k : Int) : Hello := ⟨mI x.versions k, mExtS x.exts (k + (x.versions.length : Int))⟩
def nHello (x : Hello) : Nat := x.versions.length + cExtS x.exts
theorem nHello_mid {x : Hello} (w : x.Mid) : nHello x ≤ 2305843016730000000 := by unfold Hello.Mid at w; have h0 := w.1; have h1 := cExtS_mid (show _ from w.2); unfold nHello; omega
theorem nHello_small {x : Hello} (w : x.Small) : nHello x ≤ 2199100000000 := by unfold Hello.Small at w; have h0 := w.1; have h1 := cExtS_small (show _ from w.2); unfold nHello; omega

/- laws.markHello -/
theorem ok1081 (x : Hello) (k : Int) (hk : Lim k (nHello x)) (w : x.Mid) : fix Tb md 1081 [sHello (row fI x.versions) (row fExt x.exts) (.mp 0) (.mp 1), I k] = some ⟨[I (k + (nHello x : Int))], [.row () (row fI (wHello x k).versions), .row () (row fExt (wHello x k).exts)], none⟩ := by
  have hn : nHello x = x.versions.length + cExtS x.exts := rfl
  unfold Hello.Mid at w
  have a0 : AtK k k 0 := AtK.zero
  obtain ⟨z1, hz1⟩ : ∃ y_, y_ = k + (x.versions.length : Int) := ⟨_, rfl⟩
  have a1 : AtK z1 k (0 + x.versions.length) := hz1 ▸ a0.plus
  have m1 : Lim k (x.versions.length) := a0.lim hk (by omega)
  have n1 : 0 ≤ z1 := by have := m1.nn; omega
  obtain ⟨z2, hz2⟩ : ∃ y_, y_ = z1 + (cExtS x.exts : Int) := ⟨_, rfl⟩
  have a2 : AtK z2 k (0 + x.versions.length + cExtS x.exts) := hz2 ▸ a1.plus
  have m2 : Lim z1 (cExtS x.exts) := a1.lim hk (by omega)
  have n2 : 0 ≤ z2 := by have := m2.nn; omega
  rw [show k + (nHello x : Int) = z2 by rw [a2.same, hn]; simp]
  have x0 : (wHello x k).versions = mI x.versions k := by simp only [wHello, hz1, hz2]
  have x1 : (wHello x k).exts = mExtS x.exts z1 := by simp only [wHello, hz1, hz2]
  rw [x0, x1]
  obtain ⟨g0, hg0⟩ : ∃ y_, y_ = row fI (mI x.versions k) := ⟨_, rfl⟩
  obtain ⟨e0, he0⟩ : ∃ y_, y_ = row fI x.versions := ⟨_, rfl⟩
  obtain ⟨g1, hg1⟩ : ∃ y_, y_ = row fExt (mExtS x.exts z1) := ⟨_, rfl⟩
  obtain ⟨e1, he1⟩ : ∃ y_, y_ = row fExt x.exts := ⟨_, rfl⟩
  rw [← hg0, ← he0, ← hg1, ← he1]
  refine fix_fn (fn := ir1081) tb_1081 rfl rfl (by decide) rfl ?_
  generalize hr : (⟨_, [_, _], none⟩ : Ret) = r
  intro add sub mul arith eq ne lt le gt ge neg conv mn mx not beq len at' ln bd cut app allS isNil mks set o hP F ho
  have c1 : o 1080 [R e0 (.mp 0), I k] = some ⟨[I z1], [.row () g0], none⟩ := by rw [ho, hz1, hg0, he0]; exact ok1080 _ _ m1 (Nat.le_trans (w.1) (by decide))
  have c2 : o 1201 [R e1 (.mp 0), I z1] = some ⟨[I z2], [.row () g1], none⟩ := by rw [ho, hz2, hg1, he1]; exact ok1201 _ _ m2 (Nat.le_trans w.2.1 (by decide)) (fun y hy => Nat.le_trans ((w.2.2 y hy)) (by decide))
  cbv
  rw [c1]; cbv
  rw [c2]; cbv
  exact congrArg some hr
theorem ok1081_on (x : Hello) (k : Int) (hk : Lim k (nHello x)) (w : x.Mid) (y1 : x.exts = []) : fix Tb md 1081 [sHello (row fI x.versions) (row fExt x.exts) (.mp 0) .nl, I k] = some ⟨[I (k + (nHello x : Int))], [.row () (row fI (wHello x k).versions)], none⟩ := by
  have hn : nHello x = x.versions.length + cExtS x.exts := rfl
  unfold Hello.Mid at w
  have a0 : AtK k k 0 := AtK.zero
  obtain ⟨z1, hz1⟩ : ∃ y_, y_ = k + (x.versions.length : Int) := ⟨_, rfl⟩
  have a1 : AtK z1 k (0 + x.versions.length) := hz1 ▸ a0.plus
  have m1 : Lim k (x.versions.length) := a0.lim hk (by omega)
  have n1 : 0 ≤ z1 := by have := m1.nn; omega
  obtain ⟨z2, hz2⟩ : ∃ y_, y_ = z1 + (cExtS x.exts : Int) := ⟨_, rfl⟩
  have a2 : AtK z2 k (0 + x.versions.length + cExtS x.exts) := hz2 ▸ a1.plus
  have m2 : Lim z1 (cExtS x.exts) := a1.lim hk (by omega)
  have n2 : 0 ≤ z2 := by have := m2.nn; omega
  rw [show k + (nHello x : Int) = z2 by rw [a2.same, hn]; simp]
  have x0 : (wHello x k).versions = mI x.versions k := by simp only [wHello, hz1, hz2]
  have x1 : (wHello x k).exts = mExtS x.exts z1 := by simp only [wHello, hz1, hz2]
  rw [x0]
  obtain ⟨g0, hg0⟩ : ∃ y_, y_ = row fI (mI x.versions k) := ⟨_, rfl⟩
  obtain ⟨e0, he0⟩ : ∃ y_, y_ = row fI x.versions := ⟨_, rfl⟩
  have e1 : row fExt x.exts = [] := by rw [y1]; rfl
  rw [← hg0, ← he0, e1]
  refine fix_fn (fn := ir1081) tb_1081 rfl rfl (by decide) rfl ?_
  generalize hr : (⟨_, [_], none⟩ : Ret) = r
  intro add sub mul arith eq ne lt le gt ge neg conv mn mx not beq len at' ln bd cut app allS isNil mks set o hP F ho
  have c1 : o 1080 [R e0 (.mp 0), I k] = some ⟨[I z1], [.row () g0], none⟩ := by rw [ho, hz1, hg0, he0]; exact ok1080 _ _ m1 (Nat.le_trans (w.1) (by decide))
  have c2 : o 1201 [R [] .nl, I z1] = some ⟨[I z2], [], none⟩ := by rw [ho, show z2 = z1 by rw [hz2, y1]; simp [cExtS]]; exact ok1201n _
  cbv
  rw [c1]; cbv
  rw [c2]; cbv
  exact congrArg some hr
theorem ok1081_no (x : Hello) (k : Int) (hk : Lim k (nHello x)) (w : x.Mid) (y0 : x.versions = []) : fix Tb md 1081 [sHello (row fI x.versions) (row fExt x.exts) .nl (.mp 0), I k] = some ⟨[I (k + (nHello x : Int))], [.row () (row fExt (wHello x k).exts)], none⟩ := by
  have hn : nHello x = x.versions.length + cExtS x.exts := rfl
  unfold Hello.Mid at w
  have a0 : AtK k k 0 := AtK.zero
  obtain ⟨z1, hz1⟩ : ∃ y_, y_ = k + (x.versions.length : Int) := ⟨_, rfl⟩
  have a1 : AtK z1 k (0 + x.versions.length) := hz1 ▸ a0.plus
  have m1 : Lim k (x.versions.length) := a0.lim hk (by omega)
  have n1 : 0 ≤ z1 := by have := m1.nn; omega
  obtain ⟨z2, hz2⟩ : ∃ y_, y_ = z1 + (cExtS x.exts : Int) := ⟨_, rfl⟩
  have a2 : AtK z2 k (0 + x.versions.length + cExtS x.exts) := hz2 ▸ a1.plus
  have m2 : Lim z1 (cExtS x.exts) := a1.lim hk (by omega)
  have n2 : 0 ≤ z2 := by have := m2.nn; omega
  rw [show k + (nHello x : Int) = z2 by rw [a2.same, hn]; simp]
  have x0 : (wHello x k).versions = mI x.versions k := by simp only [wHello, hz1, hz2]
  have x1 : (wHello x k).exts = mExtS x.exts z1 := by simp only [wHello, hz1, hz2]
  rw [x1]
  have e0 : row fI x.versions = [] := by rw [y0]; rfl
  obtain ⟨g1, hg1⟩ : ∃ y_, y_ = row fExt (mExtS x.exts z1) := ⟨_, rfl⟩
  obtain ⟨e1, he1⟩ : ∃ y_, y_ = row fExt x.exts := ⟨_, rfl⟩
  rw [e0, ← hg1, ← he1]
  refine fix_fn (fn := ir1081) tb_1081 rfl rfl (by decide) rfl ?_
  generalize hr : (⟨_, [_], none⟩ : Ret) = r
  intro add sub mul arith eq ne lt le gt ge neg conv mn mx not beq len at' ln bd cut app allS isNil mks set o hP F ho
  have c1 : o 1080 [R [] .nl, I k] = some ⟨[I z1], [], none⟩ := by rw [ho, show z1 = k by rw [hz1, y0]; simp]; exact ok1080n _
  have c2 : o 1201 [R e1 (.mp 0), I z1] = some ⟨[I z2], [.row () g1], none⟩ := by rw [ho, hz2, hg1, he1]; exact ok1201 _ _ m2 (Nat.le_trans w.2.1 (by decide)) (fun y hy => Nat.le_trans ((w.2.2 y hy)) (by decide))
  cbv
  rw [c1]; cbv
  rw [c2]; cbv
  exact congrArg some hr
theorem ok1081_nn (x : Hello) (k : Int) (hk : Lim k (nHello x)) (w : x.Mid) (y0 : x.versions = []) (y1 : x.exts = []) : fix Tb md 1081 [sHello (row fI x.versions) (row fExt x.exts) .nl .nl, I k] = some ⟨[I (k + (nHello x : Int))], [], none⟩ := by
  have hn : nHello x = x.versions.length + cExtS x.exts := rfl
  unfold Hello.Mid at w
  have a0 : AtK k k 0 := AtK.zero
  obtain ⟨z1, hz1⟩ : ∃ y_, y_ = k + (x.versions.length : Int) := ⟨_, rfl⟩
  have a1 : AtK z1 k (0 + x.versions.length) := hz1 ▸ a0.plus
  have m1 : Lim k (x.versions.length) := a0.lim hk (by omega)
  have n1 : 0 ≤ z1 := by have := m1.nn; omega
  obtain ⟨z2, hz2⟩ : ∃ y_, y_ = z1 + (cExtS x.exts : Int) := ⟨_, rfl⟩
  have a2 : AtK z2 k (0 + x.versions.length + cExtS x.exts) := hz2 ▸ a1.plus
  have m2 : Lim z1 (cExtS x.exts) := a1.lim hk (by omega)
  have n2 : 0 ≤ z2 := by have := m2.nn; omega
  rw [show k + (nHello x : Int) = z2 by rw [a2.same, hn]; simp]
  have x0 : (wHello x k).versions = mI x.versions k := by simp only [wHello, hz1, hz2]
  have x1 : (wHello x k).exts = mExtS x.exts z1 := by simp only [wHello, hz1, hz2]
  have e0 : row fI x.versions = [] := by rw [y0]; rfl
  have e1 : row fExt x.exts = [] := by rw [y1]; rfl
  rw [e0, e1]
  refine fix_fn (fn := ir1081) tb_1081 rfl rfl (by decide) rfl ?_
  generalize hr : (⟨_, [], none⟩ : Ret) = r
  intro add sub mul arith eq ne lt le gt ge neg conv mn mx not beq len at' ln bd cut app allS isNil mks set o hP F ho
  have c1 : o 1080 [R [] .nl, I k] = some ⟨[I z1], [], none⟩ := by rw [ho, show z1 = k by rw [hz1, y0]; simp]; exact ok1080n _
  have c2 : o 1201 [R [] .nl, I z1] = some ⟨[I z2], [], none⟩ := by rw [ho, show z2 = z1 by rw [hz2, y1]; simp [cExtS]]; exact ok1201n _
  cbv
  rw [c1]; cbv
  rw [c2]; cbv
  exact congrArg some hr

def mBox (x : Box) (k : Int) : Box := ⟨k, mI x.drops (k + 1), mI x.strips ((k + 1) + (x.drops.length : Int)), decide (Int.tmod (((k + 1) + (x.drops.length : Int)) + (x.strips.length : Int)) 3 = 0)⟩
def cBox (x : Box) : Nat := 1 + x.drops.length + x.strips.length + 1
def mBoxS : List Box → Int → List Box
  | [], _ => []
  | x :: l, k => mBox x k :: mBoxS l (k + (cBox x : Int))
def cBoxS (l : List Box) : Nat := (l.map cBox).sum
theorem mBoxS_len : ∀ (l : List Box) (k : Int), (mBoxS l k).length = l.length
  | [], _ => rfl
  | _ :: l, k => by simp [mBoxS, mBoxS_len l _]
theorem mBoxS_app : ∀ (a b : List Box) (k x : Int), AtK x k (cBoxS a) → mBoxS (a ++ b) k = mBoxS a k ++ mBoxS b x
  | [], b, k, x, h => by simp [AtK, cBoxS] at h; subst h; simp [mBoxS]
  | y :: a, b, k, x, h => by
    simp only [List.cons_append, mBoxS]
    rw [mBoxS_app a b (k + (cBox y : Int)) x (by unfold AtK at *; simp [cBoxS] at h ⊢; omega)]
theorem cBox_mid {x : Box} (w : x.Mid) : cBox x ≤ 2147483650 := by unfold Box.Mid at w; unfold cBox; omega
theorem cBox_small {x : Box} (w : x.Small) : cBox x ≤ 2097154 := by unfold Box.Small at w; unfold cBox; omega
theorem cBoxS_mid {l : List Box} (w : l.length ≤ 1073741824 ∧ ∀ y ∈ l, y.Mid) : cBoxS l ≤ 2305843011361177600 :=
  Nat.le_trans (sum_le fun y hy => cBox_mid (w.2 y hy)) (Nat.mul_le_mul_right _ w.1)
theorem cBoxS_small {l : List Box} (w : l.length ≤ 1048576 ∧ ∀ y ∈ l, y.Small) : cBoxS l ≤ 2199025352704 :=
  Nat.le_trans (sum_le fun y hy => cBox_small (w.2 y hy)) (Nat.mul_le_mul_right _ w.1)

/- laws.markBoxS -/
set_option maxHeartbeats 2000000 in
theorem ok1172 (l : List Box) (k : Int) (hk : Lim k (cBoxS l)) (hl : l.length ≤ 1099511627776) (w0 : ∀ y ∈ l, y.drops.length ≤ 1099511627776) (w1 : ∀ y ∈ l, y.strips.length ≤ 1099511627776) : fix Tb md 1172 [R (row fBox l) (.mp 0), I k] = some ⟨[I (k + (cBoxS l : Int))], [.row () (row fBox (mBoxS l k))], none⟩ := by
  obtain ⟨t, ht⟩ : ∃ y_, y_ = k + (cBoxS l : Int) := ⟨_, rfl⟩
  obtain ⟨et, het⟩ : ∃ y_, y_ = row fBox (mBoxS l k) := ⟨_, rfl⟩
  have hT : AtK t k (cBoxS l) := ht
  rw [← ht, ← het]
  clear ht
  refine fix_fn (fn := ir1172) tb_1172 rfl rfl (by decide) rfl ?_
  generalize hr : (⟨_, [_], none⟩ : Ret) = r
  obtain ⟨ea, hea⟩ : ∃ y_, y_ = row fBox l := ⟨_, rfl⟩
  rw [← hea]
  intro add sub mul arith eq ne lt le gt ge neg conv mn mx not beq len at' ln bd cut app allS isNil mks set o hP F ho
  cbv
  refine loop_ind hP (σ := List Box × List Box × List (List V) × Int × Int) (fun s => [(0, R s.2.2.1 (.mp 0)), (1, I s.2.2.2.1), (4, I 0), (5, I s.2.2.2.2)])
    (fun s => At s.2.2.2.2 s.2.1.length ∧ AtK s.2.2.2.1 k (cBoxS s.2.1) ∧ l = s.2.1 ++ s.1 ∧ s.2.2.1 = row fBox (mBoxS s.2.1 k ++ s.1)) (fun s => s.1.length) (l, [], ea, k, 0) rfl ⟨rfl, AtK.zero, rfl, by simpa [mBoxS] using hea⟩ ?_
  rintro ⟨suf, pre, eo, z0, i⟩ ⟨hi, a0, hl', heo⟩ ih
  simp only at hi a0 hl' heo ih
  have lo := F.len_at heo
  cbv
  cases suf with
  | nil =>
    rw [F.lt_f hi lo (by simp [mBoxS_len])]; cbv
    rw [← hr, show z0 = t by rw [a0.same, hT.same, hl']; simp, heo, het, hl']; simp
  | cons x suf =>
    have hl3 : pre.length + 1 ≤ l.length := by rw [hl']; simp
    have hc : cBoxS l = cBoxS pre + (cBox x + cBoxS suf) := by rw [hl']; simp [cBoxS]
    have hcx : cBox x = 1 + x.drops.length + x.strips.length + 1 := rfl
    obtain ⟨z1, hz1⟩ : ∃ y_, y_ = z0 + 1 := ⟨_, rfl⟩
    have a1 : AtK z1 k (cBoxS pre + 1) := hz1 ▸ a0.one
    have s1 : add .i64 z0 1 = z1 := by rw [F.add, a0.inc hk (by omega), hz1]
    obtain ⟨z2, hz2⟩ : ∃ y_, y_ = z1 + (x.drops.length : Int) := ⟨_, rfl⟩
    have a2 : AtK z2 k (cBoxS pre + 1 + x.drops.length) := hz2 ▸ a1.plus
    have m2 : Lim z1 x.drops.length := a1.lim hk (by omega)
    have n2 : 0 ≤ z2 := by have := m2.nn; omega
    obtain ⟨z3, hz3⟩ : ∃ y_, y_ = z2 + (x.strips.length : Int) := ⟨_, rfl⟩
    have a3 : AtK z3 k (cBoxS pre + 1 + x.drops.length + x.strips.length) := hz3 ▸ a2.plus
    have m3 : Lim z2 x.strips.length := a2.lim hk (by omega)
    have n3 : 0 ≤ z3 := by have := m3.nn; omega
    obtain ⟨z4, hz4⟩ : ∃ y_, y_ = z3 + 1 := ⟨_, rfl⟩
    have a4 : AtK z4 k (cBoxS pre + 1 + x.drops.length + x.strips.length + 1) := hz4 ▸ a3.one
    have s4 : add .i64 z3 1 = z4 := by rw [F.add, a3.inc hk (by omega), hz4]
    have hmx : mBox x z0 = (⟨z0, (mI x.drops z1), (mI x.strips z2), (decide (Int.tmod z3 3 = 0))⟩ : Box) := by simp only [mBox, hz1, hz2, hz3, hz4]
    have hzn : z0 + (cBox x : Int) = z4 := by rw [hcx, a4.same, a0.same]; omega
    have y0 : x.drops.length ≤ 1099511627776 := w0 x (by rw [hl']; simp)
    have y1 : x.strips.length ≤ 1099511627776 := w1 x (by rw [hl']; simp)
    obtain ⟨e1, he1⟩ : ∃ y_, y_ = row fI x.drops := ⟨_, rfl⟩
    obtain ⟨g1, hg1⟩ : ∃ y_, y_ = row fI (mI x.drops z1) := ⟨_, rfl⟩
    obtain ⟨e2, he2⟩ : ∃ y_, y_ = row fI x.strips := ⟨_, rfl⟩
    obtain ⟨g2, hg2⟩ : ∃ y_, y_ = row fI (mI x.strips z2) := ⟨_, rfl⟩
    obtain ⟨w, hw⟩ : ∃ y_, y_ = Int.tmod z3 3 := ⟨_, rfl⟩
    obtain ⟨b3, hb3⟩ : ∃ y_, y_ = decide (Int.tmod z3 3 = 0) := ⟨_, rfl⟩
    rw [F.lt_t hi lo (by simp [mBoxS_len])]; cbv
    obtain ⟨ix, hix⟩ : ∃ y_, y_ = pre.length * 4 := ⟨_, rfl⟩
    obtain ⟨eo1, heo1⟩ : ∃ y_, y_ = row fBox (mBoxS pre k ++ (⟨z0, x.drops, x.strips, x.lists⟩ : Box) :: suf) := ⟨_, rfl⟩
    obtain ⟨eo2, heo2⟩ : ∃ y_, y_ = row fBox (mBoxS pre k ++ (⟨z0, (mI x.drops z1), x.strips, x.lists⟩ : Box) :: suf) := ⟨_, rfl⟩
    obtain ⟨eo3, heo3⟩ : ∃ y_, y_ = row fBox (mBoxS pre k ++ (⟨z0, (mI x.drops z1), (mI x.strips z2), x.lists⟩ : Box) :: suf) := ⟨_, rfl⟩
    obtain ⟨eo4, heo4⟩ : ∃ y_, y_ = row fBox (mBoxS pre k ++ (⟨z0, (mI x.drops z1), (mI x.strips z2), (decide (Int.tmod z3 3 = 0))⟩ : Box) :: suf) := ⟨_, rfl⟩
    rw [show at' 4 eo i = some (ix, [.int .i64 x.limit, .row () e1, .row () e2, .bool x.lists]) by simp only [hix, he1, he2, hg1, hg2, hb3]; have h := F.get (f := fBox) (k := 4) (show At i (mBoxS pre k).length by rw [mBoxS_len]; exact hi) heo rfl (fun _ => rfl) (by decide); rw [mBoxS_len] at h; exact h]; cbv
    have q0 : setFlat eo (ix + 0) [.int .i64 z0] = some eo1 := by simp only [heo, heo1, he1, he2, hg1, hg2, hb3]; exact set_fld (k := 4) (fun _ => rfl) (by decide) (by simp [fBox]) (by rw [hix, mBoxS_len])
    first | rw [show set eo (ix + 0) [.int .i64 z0] = some eo1 by rw [F.set]; exact q0] | rw [show set eo (Nat.add ix 0) [.int .i64 z0] = some eo1 by rw [F.set]; exact q0] | rw [show set eo ix [.int .i64 z0] = some eo1 by rw [F.set]; exact q0] | trace_state
    cbv
    rw [s1]
    rw [show at' 4 eo1 i = some (ix, [.int .i64 z0, .row () e1, .row () e2, .bool x.lists]) by simp only [hix, he1, he2, hg1, hg2, hb3]; have h := F.get (f := fBox) (k := 4) (show At i (mBoxS pre k).length by rw [mBoxS_len]; exact hi) heo1 rfl (fun _ => rfl) (by decide); rw [mBoxS_len] at h; exact h]; cbv
    have c1 : o 1080 [R e1 (.mp 0), I z1] = some ⟨[I z2], [.row () g1], none⟩ := by rw [ho, he1, hg1, hz2]; exact ok1080 _ _ m2 y0
    rw [c1]; cbv
    have q1 : setFlat eo1 (ix + 1) [.row () g1] = some eo2 := by simp only [heo1, heo2, he1, he2, hg1, hg2, hb3]; exact set_fld (k := 4) (fun _ => rfl) (by decide) (by simp [fBox]) (by rw [hix, mBoxS_len])
    first | rw [show set eo1 (ix + 1) [.row () g1] = some eo2 by rw [F.set]; exact q1] | rw [show set eo1 (Nat.add ix 1) [.row () g1] = some eo2 by rw [F.set]; exact q1] | rw [show set eo1 ix [.row () g1] = some eo2 by rw [F.set]; exact q1] | trace_state
    cbv
    rw [show at' 4 eo2 i = some (ix, [.int .i64 z0, .row () g1, .row () e2, .bool x.lists]) by simp only [hix, he1, he2, hg1, hg2, hb3]; have h := F.get (f := fBox) (k := 4) (show At i (mBoxS pre k).length by rw [mBoxS_len]; exact hi) heo2 rfl (fun _ => rfl) (by decide); rw [mBoxS_len] at h; exact h]; cbv
    have c2 : o 1080 [R e2 (.mp 0), I z2] = some ⟨[I z3], [.row () g2], none⟩ := by rw [ho, he2, hg2, hz3]; exact ok1080 _ _ m3 y1
    rw [c2]; cbv
    have q2 : setFlat eo2 (ix + 2) [.row () g2] = some eo3 := by simp only [heo2, heo3, he1, he2, hg1, hg2, hb3]; exact set_fld (k := 4) (fun _ => rfl) (by decide) (by simp [fBox]) (by rw [hix, mBoxS_len])
    first | rw [show set eo2 (ix + 2) [.row () g2] = some eo3 by rw [F.set]; exact q2] | rw [show set eo2 (Nat.add ix 2) [.row () g2] = some eo3 by rw [F.set]; exact q2] | rw [show set eo2 ix [.row () g2] = some eo3 by rw [F.set]; exact q2] | trace_state
    cbv
    rw [show arith .rem .i64 z3 3 = some (.int .i64 w) by rw [F.arith, hw]; rfl]; cbv
    rw [show at' 4 eo3 i = some (ix, [.int .i64 z0, .row () g1, .row () g2, .bool x.lists]) by simp only [hix, he1, he2, hg1, hg2, hb3]; have h := F.get (f := fBox) (k := 4) (show At i (mBoxS pre k).length by rw [mBoxS_len]; exact hi) heo3 rfl (fun _ => rfl) (by decide); rw [mBoxS_len] at h; exact h]; cbv
    rw [show eq w 0 = b3 by rw [F.eq, hb3, hw]]
    have q3 : setFlat eo3 (ix + 3) [.bool b3] = some eo4 := by simp only [heo3, heo4, he1, he2, hg1, hg2, hb3]; exact set_fld (k := 4) (fun _ => rfl) (by decide) (by simp [fBox]) (by rw [hix, mBoxS_len])
    first | rw [show set eo3 (ix + 3) [.bool b3] = some eo4 by rw [F.set]; exact q3] | rw [show set eo3 (Nat.add ix 3) [.bool b3] = some eo4 by rw [F.set]; exact q3] | rw [show set eo3 ix [.bool b3] = some eo4 by rw [F.set]; exact q3] | trace_state
    cbv
    rw [s4]
    refine ih (suf, pre ++ [x], eo4, z4, add .i64 i 1) ⟨at_len (F.inc hi (by omega)) (by simp), a4.eq (by simp [cBoxS, cBox] <;> omega), by simp [hl'], ?_⟩ (by simp)
    simp only
    rw [heo4, mBoxS_app pre [x] k z0 a0, ← hmx]; simp [mBoxS]
theorem ok1172n (k : Int) : fix Tb md 1172 [R [] .nl, I k] = some ⟨[I k], [], none⟩ := by
  refine fix_fn (fn := ir1172) tb_1172 rfl rfl (by decide) rfl ?_
  generalize hr : (⟨_, [], none⟩ : Ret) = r
  intro add sub mul arith eq ne lt le gt ge neg conv mn mx not beq len at' ln bd cut app allS isNil mks set o hP F ho
  have la : At (len []) 0 := F.len_at (f := fBox) (l := []) rfl
  have h0 : lt 0 (len []) = false := F.lt_f at0 la (Nat.le_refl 0)
  cbv
  refine loop_ind hP (σ := Unit) (fun _ => [(0, R [] .nl), (1, I k), (4, I 0), (5, I 0)]) (fun _ => True) (fun _ => 0) () rfl trivial ?_
  rintro ⟨⟩ _ ih
  clear ih
  cbv
  rw [h0]; cbv
  exact congrArg some hr

/- spec.l1In -/
theorem ok230 (n lo hi : Int) : fix Tb md 230 [I n, I lo, I hi] = some ⟨[B (inR n lo hi)], [], none⟩ := by
  refine fix_fn (fn := ir230) tb_230 rfl rfl (by decide) rfl ?_; simp only [shutArgs, shutS, List.map_cons, List.map_nil, ir230, List.head?_nil, reduceCtorEq, if_false, sExt, sHello, sAnswer, sEdit, sDeal, sBox, sDialed, sKnown]
  generalize hr : (⟨_, [], none⟩ : Ret) = r
  intro add sub mul arith eq ne lt le gt ge neg conv mn mx not beq len at' ln bd cut app allS isNil mks set o hP F ho
  cbv
  repeat' (refine both (fun c => ?_) (fun c => ?_) <;> (try rw [c]) <;> (try cbv))
  all_goals (simp only [F.le, F.ge, F.lt, F.gt] at *; subst hr; (try simp_all [inR]) <;> (try omega))

/- spec.AreVersions -/
def verGo : List Int → List Int → Bool
  | _, [] => true
  | pre, x :: suf => inR x 1 9 && (match pre.getLast? with | none => true | some y => !decide (x ≤ y)) && verGo (pre ++ [x]) suf
def areVer (l : List Int) : Bool := verGo [] l && decide (0 < l.length)
theorem ok257 (l : List Int) (hl : l.length ≤ 1099511627776) {f0 : Fl} (h0 : inFl f0 = true) : fix Tb md 257 [R (row fI l) f0] = some ⟨[B (areVer l)], [], none⟩ := by
  obtain ⟨T, hT⟩ : ∃ y_, y_ = verGo [] l := ⟨_, rfl⟩
  rw [show areVer l = (T && decide (0 < l.length)) by rw [hT]; rfl]
  generalize hr : (⟨_, [], none⟩ : Ret) = r
  obtain ⟨ea, hea⟩ : ∃ y_, y_ = row fI l := ⟨_, rfl⟩
  rw [← hea]
  refine fix_fn2 (fn := ir257) tb_257 rfl rfl (by decide) rfl ?_; intro Q hQ; simp only [shutArgs, shutS, List.map_cons, List.map_nil, ir257, shut_in h0, List.head?_nil, reduceCtorEq, if_false, sExt, sHello, sAnswer, sEdit, sDeal, sBox, sDialed, sKnown]
  intro add sub mul arith eq ne lt le gt ge neg conv mn mx not beq len at' ln bd cut app allS isNil mks set o hP F ho
  have la := F.len_at hea
  have h6 : gt (len ea) 0 = decide (0 < l.length) := F.gt_n la rfl
  cbv
  refine loop_ind2 hP (σ := List Int × List Int × Int) (fun s => [(0, R ea .sh), (2, B false), (3, I s.2.2)]) (fun s => At s.2.2 s.2.1.length ∧ l = s.2.1 ++ s.1 ∧ verGo s.2.1 s.1 = T) (fun s => s.1.length) (l, [], 0) rfl ⟨rfl, rfl, hT.symm⟩ ?_
  intro c1 Q1 hc1 hQ1
  rintro ⟨suf, pre, i⟩ ⟨hi, hl', hb⟩ ih
  simp only at hi hl' hb ih
  cbv
  cases suf with
  | nil =>
    rw [F.lt_f hi la (by simp [hl'])]; cbv
    rw [hQ1]; cbv
    rw [hQ]; cbv
    rw [h6, ← hr, ← hb]; rfl
  | cons x suf =>
    obtain ⟨ix, hix⟩ : ∃ y_, y_ = pre.length * 1 := ⟨_, rfl⟩
    have hpre : pre.length ≤ 1099511627776 := by rw [hl'] at hl; simp at hl; omega
    have p0 : at' 1 ea i = some (ix, [.int .i64 x]) := by rw [hix]; exact F.get hi hea hl' (fun _ => rfl) (by decide)
    obtain ⟨b1, hb1⟩ : ∃ y_, y_ = inR x 1 9 := ⟨_, rfl⟩
    have c1 : o 230 [I x, I 1, I 9] = some ⟨[B b1], [], none⟩ := by rw [ho, hb1]; exact ok230 ..
    have hv0 : verGo pre (x :: suf) = (b1 && (match pre.getLast? with | none => true | some y => !decide (x ≤ y)) && verGo (pre ++ [x]) suf) := by rw [hb1]; rfl
    rw [hv0] at hb
    have hi' : At (add .i64 i 1) (pre ++ [x]).length := at_len (F.inc hi (by omega)) (by simp)
    have hl2 : l = (pre ++ [x]) ++ suf := by rw [hl']; simp
    have hg0 : gt i 0 = decide (0 < pre.length) := F.gt_n hi rfl
    rw [F.lt_t hi la (by simp [hl'])]; cbv
    rw [p0]; cbv
    rw [c1]; cbv
    refine both (fun d1 => ?_) (fun d1 => ?_) <;> rw [d1] <;> cbv
    · rw [hQ1]; cbv
      rw [hQ]; cbv
      rw [← hr, show T = false by rw [← hb, F.not_t d1]; rfl]; rfl
    rw [F.not_f d1, Bool.true_and] at hb
    rcases List.eq_nil_or_concat pre with hp | ⟨p', y, hp⟩
    · rw [show gt i 0 = false by rw [hg0, hp]; rfl]; cbv
      refine ih (suf, pre ++ [x], add .i64 i 1) ⟨hi', hl2, ?_⟩ (by simp)
      simp only
      rw [← hb, hp]; rfl
    · rw [show gt i 0 = true by rw [hg0, hp]; simp]; cbv
      obtain ⟨iy, hiy⟩ : ∃ y_, y_ = p'.length * 1 := ⟨_, rfl⟩
      have hi2 : At (sub .i64 i 1) p'.length := by unfold At at hi ⊢; rw [hp] at hi; simp at hi; rw [F.sub, hi, wrap64 (by omega) (by rw [hp] at hpre; simp at hpre; omega)]; omega
      rw [show at' 1 ea (sub .i64 i 1) = some (iy, [.int .i64 y]) by rw [hiy]; exact F.get hi2 hea (show l = p' ++ y :: (x :: suf) by rw [hl', hp]; simp) (fun _ => rfl) (by decide)]; cbv
      rw [p0]; cbv
      obtain ⟨u, hu⟩ : ∃ y_, y_ = decide (x ≤ y) := ⟨_, rfl⟩
      rw [show ge y x = u by rw [F.ge, hu]]; cbv
      have hgl : pre.getLast? = some y := by rw [hp]; simp
      rw [hgl] at hb
      simp only at hb
      rw [← hu] at hb
      refine both (fun d3 => ?_) (fun d3 => ?_) <;> rw [d3] <;> cbv
      · rw [hQ1]; cbv
        rw [hQ]; cbv
        rw [← hr, show T = false by rw [← hb, d3]; rfl]; rfl
      · refine ih (suf, pre ++ [x], add .i64 i 1) ⟨hi', hl2, ?_⟩ (by simp)
        rw [← hb, d3]; simp

/- spec.l9Byte -/
theorem ok231 (l : List Int) (hl : l.length ≤ 1099511627776) {f0 : Fl} (h0 : inFl f0 = true) : fix Tb md 231 [R (row fI l) f0] = some ⟨[B (bytes l)], [], none⟩ := by
  refine fix_fn (fn := ir231) tb_231 rfl rfl (by decide) rfl ?_; simp only [shutArgs, shutS, List.map_cons, List.map_nil, ir231, shut_in h0, List.head?_nil, reduceCtorEq, if_false, sExt, sHello, sAnswer, sEdit, sDeal, sBox, sDialed, sKnown]
  generalize hr : (⟨_, [], none⟩ : Ret) = r
  obtain ⟨ea, hea⟩ : ∃ y_, y_ = row fI l := ⟨_, rfl⟩
  rw [← hea]
  intro add sub mul arith eq ne lt le gt ge neg conv mn mx not beq len at' ln bd cut app allS isNil mks set o hP F ho
  have la := F.len_at hea
  cbv
  refine loop_ind hP (σ := List Int × List Int × Int) (fun s => [(0, R ea .sh), (2, B false), (3, I s.2.2)]) (fun s => At s.2.2 s.1.length ∧ l = s.1 ++ s.2.1 ∧ bytes s.1 = true) (fun s => s.2.1.length) ([], l, 0) rfl ⟨rfl, rfl, rfl⟩ ?_
  rintro ⟨pre, suf, i⟩ ⟨hi, hl', hb⟩ ih
  simp only at hi hl' hb ih
  cbv
  cases suf with
  | nil =>
    rw [F.lt_f hi la (by simp [hl'])]; cbv
    rw [← hr, hl']; simp [hb]
  | cons x suf =>
    rw [F.lt_t hi la (by simp [hl'])]; cbv
    obtain ⟨ix, hix⟩ : ∃ y_, y_ = pre.length * 1 := ⟨_, rfl⟩
    rw [show at' 1 ea i = some (ix, [.int .i64 x]) by rw [hix]; exact F.get hi hea hl' (fun _ => rfl) (by decide)]; cbv
    obtain ⟨v, hv⟩ : ∃ y_, y_ = inR x 0 255 := ⟨_, rfl⟩
    rw [show o 230 [I x, I 0, I 255] = some ⟨[B v], [], none⟩ by rw [ho, hv]; exact ok230 x 0 255]; cbv
    refine both (fun c => ?_) (fun c => ?_) <;> rw [c] <;> cbv
    · rw [← hr, hl']
      rw [F.not] at c
      simp [bytes] at *
      simp_all
    · rw [F.not] at c
      simp at c
      refine ih (pre ++ [x], suf, add .i64 i 1) ⟨at_len (F.inc hi (by simp [hl'] at hl; omega)) (by simp), by simp [hl'], ?_⟩ (by simp)
      simp [bytes] at *
      simp_all

def ixOf {α : Type} (p : α → Bool) : List α → Int → Int
  | [], _ => -1
  | x :: l, i => if p x = true then i else ixOf p l (i + 1)
theorem ixOf_ge {α : Type} (p : α → Bool) : ∀ (l : List α) (i : Int), 0 ≤ i → decide (0 ≤ ixOf p l i) = l.any p
  | [], i, h => by simp [ixOf]
  | x :: l, i, h => by
    unfold ixOf
    rw [List.any_cons]
    by_cases hx : p x = true
    · rw [if_pos hx, hx]; simpa using h
    · rw [if_neg hx, ixOf_ge p l (i + 1) (by omega)]; simp at hx; simp [hx]
theorem ixOf_none {α : Type} {p : α → Bool} : ∀ {l : List α} {i : Int}, l.any p = false → ixOf p l i = -1
  | [], i, _ => rfl
  | x :: l, i, h => by
    rw [List.any_cons, Bool.or_eq_false_iff] at h
    unfold ixOf
    rw [if_neg (by rw [h.1]; decide), ixOf_none h.2]

/- spec.ExtOf -/
def tagP (t : Int) (e : Ext) : Bool := decide (e.tag = t)
def extOf (l : List Ext) (t : Int) : Int := ixOf (tagP t) l 0
theorem ixOf_pre {α : Type} {p : α → Bool} : ∀ {pre : List α} {x : α} {suf : List α} {i : Int}, p x = true → (pre.any p = false → ixOf p (pre ++ x :: suf) i = i + (pre.length : Int)) ∧ (pre.any p = true → ixOf p (pre ++ x :: suf) i < i + (pre.length : Int))
  | [], x, suf, i, hx => by simp [ixOf, hx]
  | y :: pre, x, suf, i, hx => by
    obtain ⟨h1, h2⟩ := ixOf_pre (pre := pre) (suf := suf) (i := i + 1) hx
    rw [List.cons_append, List.any_cons]
    unfold ixOf
    by_cases hy : p y = true
    · rw [if_pos hy, hy]; simp; omega
    · rw [if_neg hy]; simp at hy; rw [hy, Bool.false_or]
      constructor
      · intro q; rw [h1 q]; simp; omega
      · intro q; have := h2 q; simp; omega
theorem ixOf_lt {α : Type} {p : α → Bool} {pre : List α} {x : α} {suf : List α} {i : Int} (hx : p x = true) (hi : At i pre.length) : decide (ixOf p (pre ++ x :: suf) 0 < i) = pre.any p := by
  unfold At at hi
  obtain ⟨h1, h2⟩ := ixOf_pre (pre := pre) (suf := suf) (i := 0) hx
  cases h : pre.any p with
  | false => rw [h1 h, hi]; simp
  | true => have := h2 h; rw [hi]; simp; omega
theorem ok286 (l : List Ext) (t : Int) (hl : l.length ≤ 1099511627776) {f0 : Fl} (h0 : inFl f0 = true) : fix Tb md 286 [R (row fExt l) f0, I t] = some ⟨[I (extOf l t)], [], none⟩ := by
  obtain ⟨T, hT⟩ : ∃ y_, y_ = extOf l t := ⟨_, rfl⟩
  rw [← hT]
  generalize hr : (⟨_, [], none⟩ : Ret) = r
  obtain ⟨ea, hea⟩ : ∃ y_, y_ = row fExt l := ⟨_, rfl⟩
  rw [← hea]
  refine fix_fn2 (fn := ir286) tb_286 rfl rfl (by decide) rfl ?_; intro Q hQ; simp only [shutArgs, shutS, List.map_cons, List.map_nil, ir286, shut_in h0, List.head?_nil, reduceCtorEq, if_false, sExt, sHello, sAnswer, sEdit, sDeal, sBox, sDialed, sKnown]
  intro add sub mul arith eq ne lt le gt ge neg conv mn mx not beq len at' ln bd cut app allS isNil mks set o hP F ho
  have la := F.len_at hea
  cbv
  refine loop_ind2 hP (σ := List Ext × List Ext × Int) (fun s => [(0, R ea .sh), (1, I t), (4, I 0), (5, I s.2.2)]) (fun s => At s.2.2 s.2.1.length ∧ l = s.2.1 ++ s.1 ∧ (s.2.1.any (tagP t)) = false) (fun s => s.1.length) (l, [], 0) rfl ⟨rfl, rfl, rfl⟩ ?_
  intro c1 Q1 hc1 hQ1
  rintro ⟨suf, pre, i⟩ ⟨hi, hl', hb⟩ ih
  simp only at hi hl' hb ih
  cbv
  cases suf with
  | nil =>
    rw [F.lt_f hi la (by simp [hl'])]; cbv
    rw [hQ1]; cbv
    rw [hQ]; cbv
    rw [← hr, hT, show extOf l t = -1 from ixOf_none (by rw [hl', List.append_nil]; exact hb)]
  | cons x suf =>
    obtain ⟨v, hv⟩ : ∃ y_, y_ = tagP t x := ⟨_, rfl⟩
    have hT' : v = true → T = i := fun q => by
      rw [hT, hl']; unfold At at hi
      rw [show extOf (pre ++ x :: suf) t = 0 + (pre.length : Int) from (ixOf_pre (hv ▸ q)).1 hb, hi]; simp
    rw [F.lt_t hi la (by simp [hl'])]; cbv
    obtain ⟨ix, hix⟩ : ∃ y_, y_ = pre.length * 2 := ⟨_, rfl⟩
    obtain ⟨e1, he1⟩ : ∃ y_, y_ = row fI x.body := ⟨_, rfl⟩
    rw [show at' 2 ea i = some (ix, [.int .i64 x.tag, .row () e1]) by rw [hix, he1]; exact F.get hi hea hl' (fun _ => rfl) (by decide)]; cbv
    rw [show eq x.tag t = v by rw [F.eq, hv]; rfl]; cbv
    refine both (fun d => ?_) (fun d => ?_) <;> rw [d] <;> cbv
    · rw [hQ1]; cbv
      rw [hQ]; cbv
      rw [← hr, hT' d]
    · refine ih (suf, pre ++ [x], add .i64 i 1) ⟨at_len (F.inc hi (by simp [hl'] at hl; omega)) (by simp), by simp [hl'], ?_⟩ (by simp)
      simp only
      rw [List.any_append, hb, List.any_cons, ← hv, d]; rfl

/- spec.AreExts -/
def exOk : List Ext → List Ext → Bool
  | _, [] => true
  | pre, x :: suf => inR x.tag 0 255 && !decide (4 < x.body.length) && bytes x.body && !(pre.any (tagP x.tag)) && exOk (pre ++ [x]) suf
def areEx (l : List Ext) : Bool := exOk [] l && decide (l.length ≤ 6)
theorem ok271 (l : List Ext) (hl : l.length ≤ 1099511627776) (w : ∀ y ∈ l, y.body.length ≤ 1099511627776) {f0 : Fl} (h0 : inFl f0 = true) : fix Tb md 271 [R (row fExt l) f0] = some ⟨[B (areEx l)], [], none⟩ := by
  obtain ⟨T, hT⟩ : ∃ y_, y_ = exOk [] l := ⟨_, rfl⟩
  rw [show areEx l = (T && decide (l.length ≤ 6)) by rw [hT]; rfl]
  generalize hr : (⟨_, [], none⟩ : Ret) = r
  obtain ⟨ea, hea⟩ : ∃ y_, y_ = row fExt l := ⟨_, rfl⟩
  rw [← hea]
  refine fix_fn2 (fn := ir271) tb_271 rfl rfl (by decide) rfl ?_; intro Q hQ; simp only [shutArgs, shutS, List.map_cons, List.map_nil, ir271, shut_in h0, List.head?_nil, reduceCtorEq, if_false, sExt, sHello, sAnswer, sEdit, sDeal, sBox, sDialed, sKnown]
  intro add sub mul arith eq ne lt le gt ge neg conv mn mx not beq len at' ln bd cut app allS isNil mks set o hP F ho
  have la := F.len_at hea
  have h6 : le (len ea) 6 = decide (l.length ≤ 6) := F.le_n la rfl
  cbv
  refine loop_ind2 hP (σ := List Ext × List Ext × Int) (fun s => [(0, R ea .sh), (2, B false), (3, I s.2.2)]) (fun s => At s.2.2 s.2.1.length ∧ l = s.2.1 ++ s.1 ∧ exOk s.2.1 s.1 = T) (fun s => s.1.length) (l, [], 0) rfl ⟨rfl, rfl, hT.symm⟩ ?_
  intro c1 Q1 hc1 hQ1
  rintro ⟨suf, pre, i⟩ ⟨hi, hl', hb⟩ ih
  simp only at hi hl' hb ih
  cbv
  cases suf with
  | nil =>
    rw [F.lt_f hi la (by simp [hl'])]; cbv
    rw [hQ1]; cbv
    rw [hQ]; cbv
    rw [h6, ← hr, ← hb]; rfl
  | cons x suf =>
    obtain ⟨ix, hix⟩ : ∃ y_, y_ = pre.length * 2 := ⟨_, rfl⟩
    obtain ⟨e1, he1⟩ : ∃ y_, y_ = row fI x.body := ⟨_, rfl⟩
    have l1 := F.len_at he1
    have hx := w x (by rw [hl']; simp)
    have p0 : at' 2 ea i = some (ix, [.int .i64 x.tag, .row () e1]) := by rw [hix, he1]; exact F.get hi hea hl' (fun _ => rfl) (by decide)
    obtain ⟨b1, hb1⟩ : ∃ y_, y_ = inR x.tag 0 255 := ⟨_, rfl⟩
    obtain ⟨b2, hb2⟩ : ∃ y_, y_ = decide (4 < x.body.length) := ⟨_, rfl⟩
    obtain ⟨b3, hb3⟩ : ∃ y_, y_ = bytes x.body := ⟨_, rfl⟩
    obtain ⟨b4, hb4⟩ : ∃ y_, y_ = pre.any (tagP x.tag) := ⟨_, rfl⟩
    obtain ⟨v, hv⟩ : ∃ y_, y_ = extOf l x.tag := ⟨_, rfl⟩
    have g4 : gt (len e1) 4 = b2 := by rw [hb2]; exact F.gt_n l1 rfl
    have c1 : o 230 [I x.tag, I 0, I 255] = some ⟨[B b1], [], none⟩ := by rw [ho, hb1]; exact ok230 ..
    have c3 : o 231 [R e1 (.sp 0 0)] = some ⟨[B b3], [], none⟩ := by rw [ho, hb3, he1]; exact ok231 _ hx rfl
    have c4 : o 286 [R ea (.sp 0 0), I x.tag] = some ⟨[I v], [], none⟩ := by rw [ho, hv, hea]; exact ok286 _ _ hl rfl
    have g5 : lt v i = b4 := by rw [F.lt, hv, hb4, hl']; exact ixOf_lt (by simp [tagP]) hi
    have hT' : T = (b1 && !b2 && b3 && !b4 && exOk (pre ++ [x]) suf) := by rw [← hb, hb1, hb2, hb3, hb4]; rfl
    rw [F.lt_t hi la (by simp [hl'])]; cbv
    rw [p0]; cbv
    rw [c1]; cbv
    refine both (fun d1 => ?_) (fun d1 => ?_) <;> rw [d1] <;> cbv
    · rw [hQ1]; cbv
      rw [hQ]; cbv
      rw [← hr, show T = false by rw [hT', F.not_t d1]; rfl]; rfl
    rw [p0]; cbv
    rw [g4]; cbv
    refine both (fun d2 => ?_) (fun d2 => ?_) <;> rw [d2] <;> cbv
    · rw [hQ1]; cbv
      rw [hQ]; cbv
      rw [← hr, show T = false by rw [hT', d2]; simp]; rfl
    rw [p0]; cbv
    rw [c3]; cbv
    refine both (fun d3 => ?_) (fun d3 => ?_) <;> rw [d3] <;> cbv
    · rw [hQ1]; cbv
      rw [hQ]; cbv
      rw [← hr, show T = false by rw [hT', F.not_t d3]; simp]; rfl
    rw [p0]; cbv
    rw [c4]; cbv
    rw [g5]; cbv
    refine both (fun d4 => ?_) (fun d4 => ?_) <;> rw [d4] <;> cbv
    · rw [hQ1]; cbv
      rw [hQ]; cbv
      rw [← hr, show T = false by rw [hT', d4]; simp]; rfl
    refine ih (suf, pre ++ [x], add .i64 i 1) ⟨at_len (F.inc hi (by simp [hl'] at hl; omega)) (by simp), by simp [hl'], ?_⟩ (by simp)
    rw [hT', F.not_f d1, d2, F.not_f d3, d4]; simp

/- spec.IsHello -/
def isHel (h : Hello) : Bool := areVer h.versions && areEx h.exts
theorem ok142 (h : Hello) (hv : h.versions.length ≤ 1099511627776) (hl : h.exts.length ≤ 1099511627776) (w : ∀ y ∈ h.exts, y.body.length ≤ 1099511627776) {f0 f1 : Fl} (h0 : inFl f0 = true) (h1 : inFl f1 = true) : fix Tb md 142 [sHello (row fI h.versions) (row fExt h.exts) f0 f1] = some ⟨[B (isHel h)], [], none⟩ := by
  obtain ⟨a, ha⟩ : ∃ y_, y_ = areVer h.versions := ⟨_, rfl⟩
  obtain ⟨b, hb⟩ : ∃ y_, y_ = areEx h.exts := ⟨_, rfl⟩
  rw [show isHel h = (a && b) by rw [ha, hb]; rfl]
  generalize hr : (⟨_, [], none⟩ : Ret) = r
  obtain ⟨ea, hea⟩ : ∃ y_, y_ = row fI h.versions := ⟨_, rfl⟩
  obtain ⟨eb, heb⟩ : ∃ y_, y_ = row fExt h.exts := ⟨_, rfl⟩
  rw [← hea, ← heb]
  refine fix_fn2 (fn := ir142) tb_142 rfl rfl (by decide) rfl ?_; intro Q hQ; simp only [shutArgs, shutS, List.map_cons, List.map_nil, ir142, shut_in h0, shut_in h1, List.head?_nil, reduceCtorEq, if_false, sExt, sHello, sAnswer, sEdit, sDeal, sBox, sDialed, sKnown]
  intro add sub mul arith eq ne lt le gt ge neg conv mn mx not beq len at' ln bd cut app allS isNil mks set o hP F ho
  have c1 : o 257 [R ea (.sp 0 0)] = some ⟨[B a], [], none⟩ := by rw [ho, ha, hea]; exact ok257 _ hv rfl
  have c2 : o 271 [R eb (.sp 0 0)] = some ⟨[B b], [], none⟩ := by rw [ho, hb, heb]; exact ok271 _ hl w rfl
  cbv
  rw [c1]; cbv
  refine both (fun d1 => ?_) (fun d1 => ?_) <;> rw [d1] <;> cbv
  · rw [c2]; cbv
    rw [hQ]; cbv
    rw [← hr, d1]; rfl
  · rw [hQ]; cbv
    rw [← hr, d1]; rfl

/- impl.InRange -/
theorem ok232 (x lo hi : Int) : fix Tb md 232 [I x, I lo, I hi] = some ⟨[B (inR x lo hi)], [], none⟩ := by
  refine fix_fn (fn := ir232) tb_232 rfl rfl (by decide) rfl ?_; simp only [shutArgs, shutS, List.map_cons, List.map_nil, ir232, List.head?_nil, reduceCtorEq, if_false, sExt, sHello, sAnswer, sEdit, sDeal, sBox, sDialed, sKnown]
  generalize hr : (⟨_, [], none⟩ : Ret) = r
  intro add sub mul arith eq ne lt le gt ge neg conv mn mx not beq len at' ln bd cut app allS isNil mks set o hP F ho
  cbv
  repeat' (first | (refine both (fun c => ?_) (fun c => ?_) <;> (try rw [c]) <;> (try cbv)))
  all_goals (clear hP  ho; try simp only [F.eq, F.ne, F.le, F.lt, F.ge, F.gt, F.not, F.beq] at *; clear F; subst hr)
  all_goals (simp_all [inR] <;> (intros; omega))

/- impl.AreVersions -/
theorem ok255 (l : List Int) (hl : l.length ≤ 1099511627776) {f0 : Fl} (h0 : inFl f0 = true) : fix Tb md 255 [R (row fI l) f0] = some ⟨[B (areVer l)], [], none⟩ := by
  obtain ⟨T, hT⟩ : ∃ y_, y_ = verGo [] l := ⟨_, rfl⟩
  rw [show areVer l = (T && decide (0 < l.length)) by rw [hT]; rfl]
  generalize hr : (⟨_, [], none⟩ : Ret) = r
  obtain ⟨ea, hea⟩ : ∃ y_, y_ = row fI l := ⟨_, rfl⟩
  rw [← hea]
  refine fix_fn2 (fn := ir255) tb_255 rfl rfl (by decide) rfl ?_; intro Q hQ; simp only [shutArgs, shutS, List.map_cons, List.map_nil, ir255, shut_in h0, List.head?_nil, reduceCtorEq, if_false, sExt, sHello, sAnswer, sEdit, sDeal, sBox, sDialed, sKnown]
  intro add sub mul arith eq ne lt le gt ge neg conv mn mx not beq len at' ln bd cut app allS isNil mks set o hP F ho
  have la := F.len_at hea
  have h6 : gt (len ea) 0 = decide (0 < l.length) := F.gt_n la rfl
  cbv
  refine loop_ind2 hP (σ := List Int × List Int × Int × Option (Int × Int)) (fun s => match s.2.2.2 with | none => [(0, R ea .sh), (2, B false), (5, R ea .sh), (6, I (len ea)), (7, I s.2.2.1)] | some j => [(0, R ea .sh), (2, B false), (3, I j.1), (4, I j.2), (5, R ea .sh), (6, I (len ea)), (7, I s.2.2.1)]) (fun s => At s.2.2.1 s.2.1.length ∧ l = s.2.1 ++ s.1 ∧ verGo s.2.1 s.1 = T) (fun s => s.1.length) (l, [], 0, none) rfl ⟨rfl, rfl, hT.symm⟩ ?_
  intro c1 Q1 hc1 hQ1
  rintro ⟨suf, pre, i, j⟩ ⟨hi, hl', hb⟩ ih
  simp only at hi hl' hb ih
  cases j with
  | none =>
    cbv
    cases suf with
    | nil =>
      rw [F.lt_f hi la (by simp [hl'])]; cbv
      rw [hQ1]; cbv
      rw [hQ]; cbv
      rw [h6, ← hr, ← hb]; rfl
    | cons x suf =>
      obtain ⟨ix, hix⟩ : ∃ y_, y_ = pre.length * 1 := ⟨_, rfl⟩
      have hpre : pre.length ≤ 1099511627776 := by rw [hl'] at hl; simp at hl; omega
      have p0 : at' 1 ea i = some (ix, [.int .i64 x]) := by rw [hix]; exact F.get hi hea hl' (fun _ => rfl) (by decide)
      obtain ⟨b1, hb1⟩ : ∃ y_, y_ = inR x 1 9 := ⟨_, rfl⟩
      have c1 : o 232 [I x, I 1, I 9] = some ⟨[B b1], [], none⟩ := by rw [ho, hb1]; exact ok232 ..
      have hv0 : verGo pre (x :: suf) = (b1 && (match pre.getLast? with | none => true | some y => !decide (x ≤ y)) && verGo (pre ++ [x]) suf) := by rw [hb1]; rfl
      rw [hv0] at hb
      have hi' : At (add .i64 i 1) (pre ++ [x]).length := at_len (F.inc hi (by omega)) (by simp)
      have hl2 : l = (pre ++ [x]) ++ suf := by rw [hl']; simp
      have hg0 : gt i 0 = decide (0 < pre.length) := F.gt_n hi rfl
      rw [F.lt_t hi la (by simp [hl'])]; cbv
      rw [p0]; cbv
      rw [c1]; cbv
      refine both (fun d1 => ?_) (fun d1 => ?_) <;> rw [d1] <;> cbv
      · rw [hQ1]; cbv
        rw [hQ]; cbv
        rw [← hr, show T = false by rw [← hb, F.not_t d1]; rfl]; rfl
      rw [F.not_f d1, Bool.true_and] at hb
      rcases List.eq_nil_or_concat pre with hp | ⟨p', y, hp⟩
      · rw [show gt i 0 = false by rw [hg0, hp]; rfl]; cbv
        refine ih (suf, pre ++ [x], add .i64 i 1, some (i, x)) ⟨hi', hl2, ?_⟩ (by simp)
        simp only
        rw [← hb, hp]; rfl
      · rw [show gt i 0 = true by rw [hg0, hp]; simp]; cbv
        obtain ⟨iy, hiy⟩ : ∃ y_, y_ = p'.length * 1 := ⟨_, rfl⟩
        have hi2 : At (sub .i64 i 1) p'.length := by unfold At at hi ⊢; rw [hp] at hi; simp at hi; rw [F.sub, hi, wrap64 (by omega) (by rw [hp] at hpre; simp at hpre; omega)]; omega
        rw [show at' 1 ea (sub .i64 i 1) = some (iy, [.int .i64 y]) by rw [hiy]; exact F.get hi2 hea (show l = p' ++ y :: (x :: suf) by rw [hl', hp]; simp) (fun _ => rfl) (by decide)]; cbv
        skip
        obtain ⟨u, hu⟩ : ∃ y_, y_ = decide (x ≤ y) := ⟨_, rfl⟩
        rw [show ge y x = u by rw [F.ge, hu]]; cbv
        have hgl : pre.getLast? = some y := by rw [hp]; simp
        rw [hgl] at hb
        simp only at hb
        rw [← hu] at hb
        refine both (fun d3 => ?_) (fun d3 => ?_) <;> rw [d3] <;> cbv
        · rw [hQ1]; cbv
          rw [hQ]; cbv
          rw [← hr, show T = false by rw [← hb, d3]; rfl]; rfl
        · refine ih (suf, pre ++ [x], add .i64 i 1, some (i, x)) ⟨hi', hl2, ?_⟩ (by simp)
          rw [← hb, d3]; simp
  | some jj =>
    obtain ⟨j1, j2⟩ := jj
    cbv
    cases suf with
    | nil =>
      rw [F.lt_f hi la (by simp [hl'])]; cbv
      rw [hQ1]; cbv
      rw [hQ]; cbv
      rw [h6, ← hr, ← hb]; rfl
    | cons x suf =>
      obtain ⟨ix, hix⟩ : ∃ y_, y_ = pre.length * 1 := ⟨_, rfl⟩
      have hpre : pre.length ≤ 1099511627776 := by rw [hl'] at hl; simp at hl; omega
      have p0 : at' 1 ea i = some (ix, [.int .i64 x]) := by rw [hix]; exact F.get hi hea hl' (fun _ => rfl) (by decide)
      obtain ⟨b1, hb1⟩ : ∃ y_, y_ = inR x 1 9 := ⟨_, rfl⟩
      have c1 : o 232 [I x, I 1, I 9] = some ⟨[B b1], [], none⟩ := by rw [ho, hb1]; exact ok232 ..
      have hv0 : verGo pre (x :: suf) = (b1 && (match pre.getLast? with | none => true | some y => !decide (x ≤ y)) && verGo (pre ++ [x]) suf) := by rw [hb1]; rfl
      rw [hv0] at hb
      have hi' : At (add .i64 i 1) (pre ++ [x]).length := at_len (F.inc hi (by omega)) (by simp)
      have hl2 : l = (pre ++ [x]) ++ suf := by rw [hl']; simp
      have hg0 : gt i 0 = decide (0 < pre.length) := F.gt_n hi rfl
      rw [F.lt_t hi la (by simp [hl'])]; cbv
      rw [p0]; cbv
      rw [c1]; cbv
      refine both (fun d1 => ?_) (fun d1 => ?_) <;> rw [d1] <;> cbv
      · rw [hQ1]; cbv
        rw [hQ]; cbv
        rw [← hr, show T = false by rw [← hb, F.not_t d1]; rfl]; rfl
      rw [F.not_f d1, Bool.true_and] at hb
      rcases List.eq_nil_or_concat pre with hp | ⟨p', y, hp⟩
      · rw [show gt i 0 = false by rw [hg0, hp]; rfl]; cbv
        refine ih (suf, pre ++ [x], add .i64 i 1, some (i, x)) ⟨hi', hl2, ?_⟩ (by simp)
        simp only
        rw [← hb, hp]; rfl
      · rw [show gt i 0 = true by rw [hg0, hp]; simp]; cbv
        obtain ⟨iy, hiy⟩ : ∃ y_, y_ = p'.length * 1 := ⟨_, rfl⟩
        have hi2 : At (sub .i64 i 1) p'.length := by unfold At at hi ⊢; rw [hp] at hi; simp at hi; rw [F.sub, hi, wrap64 (by omega) (by rw [hp] at hpre; simp at hpre; omega)]; omega
        rw [show at' 1 ea (sub .i64 i 1) = some (iy, [.int .i64 y]) by rw [hiy]; exact F.get hi2 hea (show l = p' ++ y :: (x :: suf) by rw [hl', hp]; simp) (fun _ => rfl) (by decide)]; cbv
        skip
        obtain ⟨u, hu⟩ : ∃ y_, y_ = decide (x ≤ y) := ⟨_, rfl⟩
        rw [show ge y x = u by rw [F.ge, hu]]; cbv
        have hgl : pre.getLast? = some y := by rw [hp]; simp
        rw [hgl] at hb
        simp only at hb
        rw [← hu] at hb
        refine both (fun d3 => ?_) (fun d3 => ?_) <;> rw [d3] <;> cbv
        · rw [hQ1]; cbv
          rw [hQ]; cbv
          rw [← hr, show T = false by rw [← hb, d3]; rfl]; rfl
        · refine ih (suf, pre ++ [x], add .i64 i 1, some (i, x)) ⟨hi', hl2, ?_⟩ (by simp)
          rw [← hb, d3]; simp

/- slices.IndexFunc[[]int,int] -/
theorem ok377_0 (g : Nat) (hg : md g = []) (p : Int → Bool) (l : List Int) (hl : l.length ≤ 1099511627776) (hp : ∀ x ∈ l, fix Tb md g [I x] = some ⟨[B (p x)], [], none⟩) {f0 : Fl} (h0 : inFl f0 = true) :
    fix Tb md 377 [R (row fI l) f0, ⟨.val, [⟨.fn g [], .sh⟩]⟩] = some ⟨[I (ixOf p l 0)], [], none⟩ := by
  generalize hm : md = m at hg hp ⊢
  refine fix_fn (fn := ir377) tb_377 rfl rfl (by decide) rfl ?_; simp only [shutArgs, shutS, List.map_cons, List.map_nil, ir377, shut_in h0, List.head?_nil, reduceCtorEq, if_false, sExt, sHello, sAnswer, sEdit, sDeal, sBox, sDialed, sKnown]
  generalize hr : (⟨_, [], none⟩ : Ret) = r
  obtain ⟨ea, hea⟩ : ∃ y_, y_ = row fI l := ⟨_, rfl⟩
  rw [← hea]
  intro add sub mul arith eq ne lt le gt ge neg conv mn mx not beq len at' ln bd cut app allS isNil mks set o hP F ho
  have la := F.len_at hea
  cbv
  refine loop_ind hP (σ := List Int × List Int × Int × Option Int) (fun s => match s.2.2.2 with | none => [(0, R ea .sh), (1, ⟨.val, [⟨.fn g [], .sh⟩]⟩), (4, I 0), (7, I (len ea)), (8, I s.2.2.1)] | some j => [(0, R ea .sh), (1, ⟨.val, [⟨.fn g [], .sh⟩]⟩), (4, I 0), (5, I j), (7, I (len ea)), (8, I s.2.2.1)])
    (fun s => At s.2.2.1 s.2.1.length ∧ l = s.2.1 ++ s.1 ∧ ixOf p s.1 (s.2.1.length : Int) = ixOf p l 0) (fun s => s.1.length) (l, [], 0, none) rfl ⟨rfl, rfl, rfl⟩ ?_
  rintro ⟨suf, pre, i, j⟩ ⟨hi, hl', hx⟩ ih
  simp only at hi hl' hx ih
  have hi' : i = (pre.length : Int) := hi
  rw [← hi'] at hx
  cases j <;> cbv <;> (
    cases suf with
    | nil =>
      rw [F.lt_f hi la (by simp [hl'])]; cbv
      rw [← hr, ← hx]; rfl
    | cons x suf =>
      rw [F.lt_t hi la (by simp [hl'])]; cbv
      obtain ⟨ix, hix⟩ : ∃ y_, y_ = pre.length * 1 := ⟨_, rfl⟩
      rw [show at' 1 ea i = some (ix, [.int .i64 x]) by rw [hix]; exact F.get hi hea hl' (fun _ => rfl) (by decide)]; cbv
      obtain ⟨v, hv⟩ : ∃ y_, y_ = p x := ⟨_, rfl⟩
      have c1 : o g [I x] = some ⟨[B v], [], none⟩ := by rw [ho, hv]; exact hp x (by rw [hl']; simp)
      rw [hg]; cbv
      rw [c1]; cbv
      have hx1 : ixOf p (x :: suf) i = if p x = true then i else ixOf p suf (i + 1) := rfl
      rw [hx1] at hx
      refine both (fun c => ?_) (fun c => ?_) <;> rw [c] <;> cbv
      · rw [← hv, if_pos c] at hx
        rw [← hr, ← hx]
      · rw [← hv, if_neg (by simp [c])] at hx
        refine ih (suf, pre ++ [x], add .i64 i 1, some i) ⟨at_len (F.inc hi (by simp [hl'] at hl; omega)) (by simp), by simp [hl'], ?_⟩ (by simp)
        rw [← hx, hi']
        simp)
theorem ok377_1 (g : Nat) (hg : md g = []) (k0 : V) (p : Int → Bool) (l : List Int) (hl : l.length ≤ 1099511627776) (hp : ∀ x ∈ l, fix Tb md g [I x, ⟨.val, [⟨k0, .sh⟩]⟩] = some ⟨[B (p x)], [], none⟩) {f0 : Fl} (h0 : inFl f0 = true) :
    fix Tb md 377 [R (row fI l) f0, ⟨.val, [⟨.fn g [k0], .sh⟩]⟩] = some ⟨[I (ixOf p l 0)], [], none⟩ := by
  generalize hm : md = m at hg hp ⊢
  refine fix_fn (fn := ir377) tb_377 rfl rfl (by decide) rfl ?_; simp only [shutArgs, shutS, List.map_cons, List.map_nil, ir377, shut_in h0, List.head?_nil, reduceCtorEq, if_false, sExt, sHello, sAnswer, sEdit, sDeal, sBox, sDialed, sKnown]
  generalize hr : (⟨_, [], none⟩ : Ret) = r
  obtain ⟨ea, hea⟩ : ∃ y_, y_ = row fI l := ⟨_, rfl⟩
  rw [← hea]
  intro add sub mul arith eq ne lt le gt ge neg conv mn mx not beq len at' ln bd cut app allS isNil mks set o hP F ho
  have la := F.len_at hea
  cbv
  refine loop_ind hP (σ := List Int × List Int × Int × Option Int) (fun s => match s.2.2.2 with | none => [(0, R ea .sh), (1, ⟨.val, [⟨.fn g [k0], .sh⟩]⟩), (4, I 0), (7, I (len ea)), (8, I s.2.2.1)] | some j => [(0, R ea .sh), (1, ⟨.val, [⟨.fn g [k0], .sh⟩]⟩), (4, I 0), (5, I j), (7, I (len ea)), (8, I s.2.2.1)])
    (fun s => At s.2.2.1 s.2.1.length ∧ l = s.2.1 ++ s.1 ∧ ixOf p s.1 (s.2.1.length : Int) = ixOf p l 0) (fun s => s.1.length) (l, [], 0, none) rfl ⟨rfl, rfl, rfl⟩ ?_
  rintro ⟨suf, pre, i, j⟩ ⟨hi, hl', hx⟩ ih
  simp only at hi hl' hx ih
  have hi' : i = (pre.length : Int) := hi
  rw [← hi'] at hx
  cases j <;> cbv <;> (
    cases suf with
    | nil =>
      rw [F.lt_f hi la (by simp [hl'])]; cbv
      rw [← hr, ← hx]; rfl
    | cons x suf =>
      rw [F.lt_t hi la (by simp [hl'])]; cbv
      obtain ⟨ix, hix⟩ : ∃ y_, y_ = pre.length * 1 := ⟨_, rfl⟩
      rw [show at' 1 ea i = some (ix, [.int .i64 x]) by rw [hix]; exact F.get hi hea hl' (fun _ => rfl) (by decide)]; cbv
      obtain ⟨v, hv⟩ : ∃ y_, y_ = p x := ⟨_, rfl⟩
      have c1 : o g [I x, ⟨.val, [⟨k0, .sh⟩]⟩] = some ⟨[B v], [], none⟩ := by rw [ho, hv]; exact hp x (by rw [hl']; simp)
      rw [hg]; cbv
      rw [c1]; cbv
      have hx1 : ixOf p (x :: suf) i = if p x = true then i else ixOf p suf (i + 1) := rfl
      rw [hx1] at hx
      refine both (fun c => ?_) (fun c => ?_) <;> rw [c] <;> cbv
      · rw [← hv, if_pos c] at hx
        rw [← hr, ← hx]
      · rw [← hv, if_neg (by simp [c])] at hx
        refine ih (suf, pre ++ [x], add .i64 i 1, some i) ⟨at_len (F.inc hi (by simp [hl'] at hl; omega)) (by simp), by simp [hl'], ?_⟩ (by simp)
        rw [← hx, hi']
        simp)
theorem ok377_2 (g : Nat) (hg : md g = []) (k0 k1 : V) (p : Int → Bool) (l : List Int) (hl : l.length ≤ 1099511627776) (hp : ∀ x ∈ l, fix Tb md g [I x, ⟨.val, [⟨k0, .sh⟩]⟩, ⟨.val, [⟨k1, .sh⟩]⟩] = some ⟨[B (p x)], [], none⟩) {f0 : Fl} (h0 : inFl f0 = true) :
    fix Tb md 377 [R (row fI l) f0, ⟨.val, [⟨.fn g [k0, k1], .sh⟩]⟩] = some ⟨[I (ixOf p l 0)], [], none⟩ := by
  generalize hm : md = m at hg hp ⊢
  refine fix_fn (fn := ir377) tb_377 rfl rfl (by decide) rfl ?_; simp only [shutArgs, shutS, List.map_cons, List.map_nil, ir377, shut_in h0, List.head?_nil, reduceCtorEq, if_false, sExt, sHello, sAnswer, sEdit, sDeal, sBox, sDialed, sKnown]
  generalize hr : (⟨_, [], none⟩ : Ret) = r
  obtain ⟨ea, hea⟩ : ∃ y_, y_ = row fI l := ⟨_, rfl⟩
  rw [← hea]
  intro add sub mul arith eq ne lt le gt ge neg conv mn mx not beq len at' ln bd cut app allS isNil mks set o hP F ho
  have la := F.len_at hea
  cbv
  refine loop_ind hP (σ := List Int × List Int × Int × Option Int) (fun s => match s.2.2.2 with | none => [(0, R ea .sh), (1, ⟨.val, [⟨.fn g [k0, k1], .sh⟩]⟩), (4, I 0), (7, I (len ea)), (8, I s.2.2.1)] | some j => [(0, R ea .sh), (1, ⟨.val, [⟨.fn g [k0, k1], .sh⟩]⟩), (4, I 0), (5, I j), (7, I (len ea)), (8, I s.2.2.1)])
    (fun s => At s.2.2.1 s.2.1.length ∧ l = s.2.1 ++ s.1 ∧ ixOf p s.1 (s.2.1.length : Int) = ixOf p l 0) (fun s => s.1.length) (l, [], 0, none) rfl ⟨rfl, rfl, rfl⟩ ?_
  rintro ⟨suf, pre, i, j⟩ ⟨hi, hl', hx⟩ ih
  simp only at hi hl' hx ih
  have hi' : i = (pre.length : Int) := hi
  rw [← hi'] at hx
  cases j <;> cbv <;> (
    cases suf with
    | nil =>
      rw [F.lt_f hi la (by simp [hl'])]; cbv
      rw [← hr, ← hx]; rfl
    | cons x suf =>
      rw [F.lt_t hi la (by simp [hl'])]; cbv
      obtain ⟨ix, hix⟩ : ∃ y_, y_ = pre.length * 1 := ⟨_, rfl⟩
      rw [show at' 1 ea i = some (ix, [.int .i64 x]) by rw [hix]; exact F.get hi hea hl' (fun _ => rfl) (by decide)]; cbv
      obtain ⟨v, hv⟩ : ∃ y_, y_ = p x := ⟨_, rfl⟩
      have c1 : o g [I x, ⟨.val, [⟨k0, .sh⟩]⟩, ⟨.val, [⟨k1, .sh⟩]⟩] = some ⟨[B v], [], none⟩ := by rw [ho, hv]; exact hp x (by rw [hl']; simp)
      rw [hg]; cbv
      rw [c1]; cbv
      have hx1 : ixOf p (x :: suf) i = if p x = true then i else ixOf p suf (i + 1) := rfl
      rw [hx1] at hx
      refine both (fun c => ?_) (fun c => ?_) <;> rw [c] <;> cbv
      · rw [← hv, if_pos c] at hx
        rw [← hr, ← hx]
      · rw [← hv, if_neg (by simp [c])] at hx
        refine ih (suf, pre ++ [x], add .i64 i 1, some i) ⟨at_len (F.inc hi (by simp [hl'] at hl; omega)) (by simp), by simp [hl'], ?_⟩ (by simp)
        rw [← hx, hi']
        simp)

/- slices.ContainsFunc[[]int,int] -/
theorem ok336_0 (g : Nat) (hg : md g = []) (p : Int → Bool) (l : List Int) (hl : l.length ≤ 1099511627776) (hp : ∀ x ∈ l, fix Tb md g [I x] = some ⟨[B (p x)], [], none⟩) {f0 : Fl} (h0 : inFl f0 = true) :
    fix Tb md 336 [R (row fI l) f0, ⟨.val, [⟨.fn g [], .sh⟩]⟩] = some ⟨[B (l.any p)], [], none⟩ := by
  refine fix_fn (fn := ir336) tb_336 rfl rfl (by decide) rfl ?_; simp only [shutArgs, shutS, List.map_cons, List.map_nil, ir336, shut_in h0, List.head?_nil, reduceCtorEq, if_false, sExt, sHello, sAnswer, sEdit, sDeal, sBox, sDialed, sKnown]
  generalize hr : (⟨_, [], none⟩ : Ret) = r
  obtain ⟨ea, hea⟩ : ∃ y_, y_ = row fI l := ⟨_, rfl⟩
  rw [← hea]
  obtain ⟨v, hv⟩ : ∃ y_, y_ = ixOf p l 0 := ⟨_, rfl⟩
  have hv2 : decide (0 ≤ v) = l.any p := by rw [hv]; exact ixOf_ge p l 0 (by decide)
  rw [← hv2] at hr
  clear hv2
  intro add sub mul arith eq ne lt le gt ge neg conv mn mx not beq len at' ln bd cut app allS isNil mks set o hP F ho
  have c1 : o 377 [R ea (.sp 0 0), ⟨.val, [⟨.fn g [], .sh⟩]⟩] = some ⟨[I v], [], none⟩ := by rw [ho, hv, hea]; exact ok377_0 g hg p l hl hp rfl
  cbv
  rw [c1]; cbv
  rw [← hr, F.ge]
theorem ok336_1 (g : Nat) (hg : md g = []) (k0 : V) (p : Int → Bool) (l : List Int) (hl : l.length ≤ 1099511627776) (hp : ∀ x ∈ l, fix Tb md g [I x, ⟨.val, [⟨k0, .sh⟩]⟩] = some ⟨[B (p x)], [], none⟩) {f0 : Fl} (h0 : inFl f0 = true) :
    fix Tb md 336 [R (row fI l) f0, ⟨.val, [⟨.fn g [k0], .sh⟩]⟩] = some ⟨[B (l.any p)], [], none⟩ := by
  refine fix_fn (fn := ir336) tb_336 rfl rfl (by decide) rfl ?_; simp only [shutArgs, shutS, List.map_cons, List.map_nil, ir336, shut_in h0, List.head?_nil, reduceCtorEq, if_false, sExt, sHello, sAnswer, sEdit, sDeal, sBox, sDialed, sKnown]
  generalize hr : (⟨_, [], none⟩ : Ret) = r
  obtain ⟨ea, hea⟩ : ∃ y_, y_ = row fI l := ⟨_, rfl⟩
  rw [← hea]
  obtain ⟨v, hv⟩ : ∃ y_, y_ = ixOf p l 0 := ⟨_, rfl⟩
  have hv2 : decide (0 ≤ v) = l.any p := by rw [hv]; exact ixOf_ge p l 0 (by decide)
  rw [← hv2] at hr
  clear hv2
  intro add sub mul arith eq ne lt le gt ge neg conv mn mx not beq len at' ln bd cut app allS isNil mks set o hP F ho
  have c1 : o 377 [R ea (.sp 0 0), ⟨.val, [⟨.fn g [k0], .sh⟩]⟩] = some ⟨[I v], [], none⟩ := by rw [ho, hv, hea]; exact ok377_1 g hg k0 p l hl hp rfl
  cbv
  rw [c1]; cbv
  rw [← hr, F.ge]
theorem ok336_2 (g : Nat) (hg : md g = []) (k0 k1 : V) (p : Int → Bool) (l : List Int) (hl : l.length ≤ 1099511627776) (hp : ∀ x ∈ l, fix Tb md g [I x, ⟨.val, [⟨k0, .sh⟩]⟩, ⟨.val, [⟨k1, .sh⟩]⟩] = some ⟨[B (p x)], [], none⟩) {f0 : Fl} (h0 : inFl f0 = true) :
    fix Tb md 336 [R (row fI l) f0, ⟨.val, [⟨.fn g [k0, k1], .sh⟩]⟩] = some ⟨[B (l.any p)], [], none⟩ := by
  refine fix_fn (fn := ir336) tb_336 rfl rfl (by decide) rfl ?_; simp only [shutArgs, shutS, List.map_cons, List.map_nil, ir336, shut_in h0, List.head?_nil, reduceCtorEq, if_false, sExt, sHello, sAnswer, sEdit, sDeal, sBox, sDialed, sKnown]
  generalize hr : (⟨_, [], none⟩ : Ret) = r
  obtain ⟨ea, hea⟩ : ∃ y_, y_ = row fI l := ⟨_, rfl⟩
  rw [← hea]
  obtain ⟨v, hv⟩ : ∃ y_, y_ = ixOf p l 0 := ⟨_, rfl⟩
  have hv2 : decide (0 ≤ v) = l.any p := by rw [hv]; exact ixOf_ge p l 0 (by decide)
  rw [← hv2] at hr
  clear hv2
  intro add sub mul arith eq ne lt le gt ge neg conv mn mx not beq len at' ln bd cut app allS isNil mks set o hP F ho
  have c1 : o 377 [R ea (.sp 0 0), ⟨.val, [⟨.fn g [k0, k1], .sh⟩]⟩] = some ⟨[I v], [], none⟩ := by rw [ho, hv, hea]; exact ok377_2 g hg k0 k1 p l hl hp rfl
  cbv
  rw [c1]; cbv
  rw [← hr, F.ge]

/- impl.areNumbers$1 -/
theorem ok340 (x lo hi : Int) : fix Tb md 340 [I x, ⟨.val, [⟨.ptr () [.int .i64 lo], .sh⟩]⟩, ⟨.val, [⟨.ptr () [.int .i64 hi], .sh⟩]⟩] = some ⟨[B (!inR x lo hi)], [], none⟩ := by
  refine fix_fn (fn := ir340) tb_340 rfl rfl (by decide) rfl ?_; simp only [shutArgs, shutS, List.map_cons, List.map_nil, ir340, List.head?_nil, reduceCtorEq, if_false, sExt, sHello, sAnswer, sEdit, sDeal, sBox, sDialed, sKnown]
  generalize hr : (⟨_, [], none⟩ : Ret) = r
  obtain ⟨v, hv⟩ : ∃ y_, y_ = inR x lo hi := ⟨_, rfl⟩
  rw [← hv] at hr
  intro add sub mul arith eq ne lt le gt ge neg conv mn mx not beq len at' ln bd cut app allS isNil mks set o hP F ho
  have c1 : o 232 [I x, I lo, I hi] = some ⟨[B v], [], none⟩ := by rw [ho, hv]; exact ok232 ..
  cbv
  rw [c1]; cbv
  rw [← hr, F.not]

/- impl.areNumbers -/
def nums (l : List Int) (lo hi : Int) : Bool := l.all fun x => inR x lo hi
theorem ok233 (l : List Int) (lo hi : Int) (hl : l.length ≤ 1099511627776) {f0 : Fl} (h0 : inFl f0 = true) : fix Tb md 233 [R (row fI l) f0, I lo, I hi] = some ⟨[B (nums l lo hi)], [], none⟩ := by
  rw [show nums l lo hi = !(l.any fun x => !inR x lo hi) by unfold nums; simp [List.all_eq_not_any_not]]
  refine fix_fn (fn := ir233) tb_233 rfl rfl (by decide) rfl ?_; simp only [shutArgs, shutS, List.map_cons, List.map_nil, ir233, shut_in h0, List.head?_nil, reduceCtorEq, if_false, sExt, sHello, sAnswer, sEdit, sDeal, sBox, sDialed, sKnown]
  generalize hr : (⟨_, [], none⟩ : Ret) = r
  obtain ⟨v, hv⟩ : ∃ y_, y_ = l.any fun x => !inR x lo hi := ⟨_, rfl⟩
  obtain ⟨ea, hea⟩ : ∃ y_, y_ = row fI l := ⟨_, rfl⟩
  rw [← hv] at hr
  rw [← hea]
  intro add sub mul arith eq ne lt le gt ge neg conv mn mx not beq len at' ln bd cut app allS isNil mks set o hP F ho
  have c1 : o 336 [R ea (.sp 0 0), ⟨.val, [⟨.fn 340 [.ptr () [.int .i64 lo], .ptr () [.int .i64 hi]], .sh⟩]⟩] = some ⟨[B v], [], none⟩ := by rw [ho, hv, hea]; exact ok336_2 340 rfl _ _ _ l hl (fun x _ => ok340 x lo hi) rfl
  cbv
  rw [c1]; cbv
  rw [← hr, F.not]

/- impl.Ext] -/
theorem ok351_0 (g : Nat) (hg : md g = []) (p : Ext → Bool) (l : List Ext) (hl : l.length ≤ 1099511627776) (hp : ∀ x ∈ l, fix Tb md g [sExt x.tag (row fI x.body) (.sp 0 1)] = some ⟨[B (p x)], [], none⟩) {f0 : Fl} (h0 : inFl f0 = true) :
    fix Tb md 351 [R (row fExt l) f0, ⟨.val, [⟨.fn g [], .sh⟩]⟩] = some ⟨[I (ixOf p l 0)], [], none⟩ := by
  generalize hm : md = m at hg hp ⊢
  refine fix_fn (fn := ir351) tb_351 rfl rfl (by decide) rfl ?_; simp only [shutArgs, shutS, List.map_cons, List.map_nil, ir351, shut_in h0, List.head?_nil, reduceCtorEq, if_false, sExt, sHello, sAnswer, sEdit, sDeal, sBox, sDialed, sKnown]
  generalize hr : (⟨_, [], none⟩ : Ret) = r
  obtain ⟨ea, hea⟩ : ∃ y_, y_ = row fExt l := ⟨_, rfl⟩
  rw [← hea]
  intro add sub mul arith eq ne lt le gt ge neg conv mn mx not beq len at' ln bd cut app allS isNil mks set o hP F ho
  have la := F.len_at hea
  cbv
  refine loop_ind hP (σ := List Ext × List Ext × Int × Option Int) (fun s => match s.2.2.2 with | none => [(0, R ea .sh), (1, ⟨.val, [⟨.fn g [], .sh⟩]⟩), (4, I 0), (7, I (len ea)), (8, I s.2.2.1)] | some j => [(0, R ea .sh), (1, ⟨.val, [⟨.fn g [], .sh⟩]⟩), (4, I 0), (5, I j), (7, I (len ea)), (8, I s.2.2.1)])
    (fun s => At s.2.2.1 s.2.1.length ∧ l = s.2.1 ++ s.1 ∧ ixOf p s.1 (s.2.1.length : Int) = ixOf p l 0) (fun s => s.1.length) (l, [], 0, none) rfl ⟨rfl, rfl, rfl⟩ ?_
  rintro ⟨suf, pre, i, j⟩ ⟨hi, hl', hx⟩ ih
  simp only at hi hl' hx ih
  have hi' : i = (pre.length : Int) := hi
  rw [← hi'] at hx
  cases j <;> cbv <;> (
    cases suf with
    | nil =>
      rw [F.lt_f hi la (by simp [hl'])]; cbv
      rw [← hr, ← hx]; rfl
    | cons x suf =>
      rw [F.lt_t hi la (by simp [hl'])]; cbv
      obtain ⟨e1, he1⟩ : ∃ y_, y_ = row fI x.body := ⟨_, rfl⟩
      obtain ⟨ix, hix⟩ : ∃ y_, y_ = pre.length * 2 := ⟨_, rfl⟩
      rw [show at' 2 ea i = some (ix, [.int .i64 x.tag, .row () e1]) by rw [hix, he1]; exact F.get hi hea hl' (fun _ => rfl) (by decide)]; cbv
      obtain ⟨v, hv⟩ : ∃ y_, y_ = p x := ⟨_, rfl⟩
      have c1 : o g [sExt x.tag e1 (.sp 0 1)] = some ⟨[B v], [], none⟩ := by rw [ho, hv, he1]; exact hp x (by rw [hl']; simp)
      rw [hg]; cbv
      rw [c1]; cbv
      have hx1 : ixOf p (x :: suf) i = if p x = true then i else ixOf p suf (i + 1) := rfl
      rw [hx1] at hx
      refine both (fun c => ?_) (fun c => ?_) <;> rw [c] <;> cbv
      · rw [← hv, if_pos c] at hx
        rw [← hr, ← hx]
      · rw [← hv, if_neg (by simp [c])] at hx
        refine ih (suf, pre ++ [x], add .i64 i 1, some i) ⟨at_len (F.inc hi (by simp [hl'] at hl; omega)) (by simp), by simp [hl'], ?_⟩ (by simp)
        rw [← hx, hi']
        simp)
theorem ok351_1 (g : Nat) (hg : md g = []) (k0 : V) (p : Ext → Bool) (l : List Ext) (hl : l.length ≤ 1099511627776) (hp : ∀ x ∈ l, fix Tb md g [sExt x.tag (row fI x.body) (.sp 0 1), ⟨.val, [⟨k0, .sh⟩]⟩] = some ⟨[B (p x)], [], none⟩) {f0 : Fl} (h0 : inFl f0 = true) :
    fix Tb md 351 [R (row fExt l) f0, ⟨.val, [⟨.fn g [k0], .sh⟩]⟩] = some ⟨[I (ixOf p l 0)], [], none⟩ := by
  generalize hm : md = m at hg hp ⊢
  refine fix_fn (fn := ir351) tb_351 rfl rfl (by decide) rfl ?_; simp only [shutArgs, shutS, List.map_cons, List.map_nil, ir351, shut_in h0, List.head?_nil, reduceCtorEq, if_false, sExt, sHello, sAnswer, sEdit, sDeal, sBox, sDialed, sKnown]
  generalize hr : (⟨_, [], none⟩ : Ret) = r
  obtain ⟨ea, hea⟩ : ∃ y_, y_ = row fExt l := ⟨_, rfl⟩
  rw [← hea]
  intro add sub mul arith eq ne lt le gt ge neg conv mn mx not beq len at' ln bd cut app allS isNil mks set o hP F ho
  have la := F.len_at hea
  cbv
  refine loop_ind hP (σ := List Ext × List Ext × Int × Option Int) (fun s => match s.2.2.2 with | none => [(0, R ea .sh), (1, ⟨.val, [⟨.fn g [k0], .sh⟩]⟩), (4, I 0), (7, I (len ea)), (8, I s.2.2.1)] | some j => [(0, R ea .sh), (1, ⟨.val, [⟨.fn g [k0], .sh⟩]⟩), (4, I 0), (5, I j), (7, I (len ea)), (8, I s.2.2.1)])
    (fun s => At s.2.2.1 s.2.1.length ∧ l = s.2.1 ++ s.1 ∧ ixOf p s.1 (s.2.1.length : Int) = ixOf p l 0) (fun s => s.1.length) (l, [], 0, none) rfl ⟨rfl, rfl, rfl⟩ ?_
  rintro ⟨suf, pre, i, j⟩ ⟨hi, hl', hx⟩ ih
  simp only at hi hl' hx ih
  have hi' : i = (pre.length : Int) := hi
  rw [← hi'] at hx
  cases j <;> cbv <;> (
    cases suf with
    | nil =>
      rw [F.lt_f hi la (by simp [hl'])]; cbv
      rw [← hr, ← hx]; rfl
    | cons x suf =>
      rw [F.lt_t hi la (by simp [hl'])]; cbv
      obtain ⟨e1, he1⟩ : ∃ y_, y_ = row fI x.body := ⟨_, rfl⟩
      obtain ⟨ix, hix⟩ : ∃ y_, y_ = pre.length * 2 := ⟨_, rfl⟩
      rw [show at' 2 ea i = some (ix, [.int .i64 x.tag, .row () e1]) by rw [hix, he1]; exact F.get hi hea hl' (fun _ => rfl) (by decide)]; cbv
      obtain ⟨v, hv⟩ : ∃ y_, y_ = p x := ⟨_, rfl⟩
      have c1 : o g [sExt x.tag e1 (.sp 0 1), ⟨.val, [⟨k0, .sh⟩]⟩] = some ⟨[B v], [], none⟩ := by rw [ho, hv, he1]; exact hp x (by rw [hl']; simp)
      rw [hg]; cbv
      rw [c1]; cbv
      have hx1 : ixOf p (x :: suf) i = if p x = true then i else ixOf p suf (i + 1) := rfl
      rw [hx1] at hx
      refine both (fun c => ?_) (fun c => ?_) <;> rw [c] <;> cbv
      · rw [← hv, if_pos c] at hx
        rw [← hr, ← hx]
      · rw [← hv, if_neg (by simp [c])] at hx
        refine ih (suf, pre ++ [x], add .i64 i 1, some i) ⟨at_len (F.inc hi (by simp [hl'] at hl; omega)) (by simp), by simp [hl'], ?_⟩ (by simp)
        rw [← hx, hi']
        simp)
theorem ok351_2 (g : Nat) (hg : md g = []) (k0 k1 : V) (p : Ext → Bool) (l : List Ext) (hl : l.length ≤ 1099511627776) (hp : ∀ x ∈ l, fix Tb md g [sExt x.tag (row fI x.body) (.sp 0 1), ⟨.val, [⟨k0, .sh⟩]⟩, ⟨.val, [⟨k1, .sh⟩]⟩] = some ⟨[B (p x)], [], none⟩) {f0 : Fl} (h0 : inFl f0 = true) :
    fix Tb md 351 [R (row fExt l) f0, ⟨.val, [⟨.fn g [k0, k1], .sh⟩]⟩] = some ⟨[I (ixOf p l 0)], [], none⟩ := by
  generalize hm : md = m at hg hp ⊢
  refine fix_fn (fn := ir351) tb_351 rfl rfl (by decide) rfl ?_; simp only [shutArgs, shutS, List.map_cons, List.map_nil, ir351, shut_in h0, List.head?_nil, reduceCtorEq, if_false, sExt, sHello, sAnswer, sEdit, sDeal, sBox, sDialed, sKnown]
  generalize hr : (⟨_, [], none⟩ : Ret) = r
  obtain ⟨ea, hea⟩ : ∃ y_, y_ = row fExt l := ⟨_, rfl⟩
  rw [← hea]
  intro add sub mul arith eq ne lt le gt ge neg conv mn mx not beq len at' ln bd cut app allS isNil mks set o hP F ho
  have la := F.len_at hea
  cbv
  refine loop_ind hP (σ := List Ext × List Ext × Int × Option Int) (fun s => match s.2.2.2 with | none => [(0, R ea .sh), (1, ⟨.val, [⟨.fn g [k0, k1], .sh⟩]⟩), (4, I 0), (7, I (len ea)), (8, I s.2.2.1)] | some j => [(0, R ea .sh), (1, ⟨.val, [⟨.fn g [k0, k1], .sh⟩]⟩), (4, I 0), (5, I j), (7, I (len ea)), (8, I s.2.2.1)])
    (fun s => At s.2.2.1 s.2.1.length ∧ l = s.2.1 ++ s.1 ∧ ixOf p s.1 (s.2.1.length : Int) = ixOf p l 0) (fun s => s.1.length) (l, [], 0, none) rfl ⟨rfl, rfl, rfl⟩ ?_
  rintro ⟨suf, pre, i, j⟩ ⟨hi, hl', hx⟩ ih
  simp only at hi hl' hx ih
  have hi' : i = (pre.length : Int) := hi
  rw [← hi'] at hx
  cases j <;> cbv <;> (
    cases suf with
    | nil =>
      rw [F.lt_f hi la (by simp [hl'])]; cbv
      rw [← hr, ← hx]; rfl
    | cons x suf =>
      rw [F.lt_t hi la (by simp [hl'])]; cbv
      obtain ⟨e1, he1⟩ : ∃ y_, y_ = row fI x.body := ⟨_, rfl⟩
      obtain ⟨ix, hix⟩ : ∃ y_, y_ = pre.length * 2 := ⟨_, rfl⟩
      rw [show at' 2 ea i = some (ix, [.int .i64 x.tag, .row () e1]) by rw [hix, he1]; exact F.get hi hea hl' (fun _ => rfl) (by decide)]; cbv
      obtain ⟨v, hv⟩ : ∃ y_, y_ = p x := ⟨_, rfl⟩
      have c1 : o g [sExt x.tag e1 (.sp 0 1), ⟨.val, [⟨k0, .sh⟩]⟩, ⟨.val, [⟨k1, .sh⟩]⟩] = some ⟨[B v], [], none⟩ := by rw [ho, hv, he1]; exact hp x (by rw [hl']; simp)
      rw [hg]; cbv
      rw [c1]; cbv
      have hx1 : ixOf p (x :: suf) i = if p x = true then i else ixOf p suf (i + 1) := rfl
      rw [hx1] at hx
      refine both (fun c => ?_) (fun c => ?_) <;> rw [c] <;> cbv
      · rw [← hv, if_pos c] at hx
        rw [← hr, ← hx]
      · rw [← hv, if_neg (by simp [c])] at hx
        refine ih (suf, pre ++ [x], add .i64 i 1, some i) ⟨at_len (F.inc hi (by simp [hl'] at hl; omega)) (by simp), by simp [hl'], ?_⟩ (by simp)
        rw [← hx, hi']
        simp)

/- impl.ExtOf$1 -/
theorem ok352 (e : Ext) (t : Int) {f0 : Fl} (h0 : inFl f0 = true) : fix Tb md 352 [sExt e.tag (row fI e.body) f0, ⟨.val, [⟨.ptr () [.int .i64 t], .sh⟩]⟩] = some ⟨[B (tagP t e)], [], none⟩ := by
  generalize hr : (⟨_, [], none⟩ : Ret) = r
  obtain ⟨ey, hey⟩ : ∃ y_, y_ = row fI e.body := ⟨_, rfl⟩
  rw [← hey]
  refine fix_fn2 (fn := ir352) tb_352 rfl rfl (by decide) rfl ?_; intro Q hQ; simp only [shutArgs, shutS, List.map_cons, List.map_nil, ir352, shut_in h0, List.head?_nil, reduceCtorEq, if_false, sExt, sHello, sAnswer, sEdit, sDeal, sBox, sDialed, sKnown]
  intro add sub mul arith eq ne lt le gt ge neg conv mn mx not beq len at' ln bd cut app allS isNil mks set o hP F ho
  cbv
  rw [hQ]; cbv
  rw [← hr, F.eq]; rfl

/- impl.ExtOf -/
theorem ok290 (l : List Ext) (t : Int) (hl : l.length ≤ 1099511627776) {f0 : Fl} (h0 : inFl f0 = true) : fix Tb md 290 [R (row fExt l) f0, I t] = some ⟨[I (extOf l t)], [], none⟩ := by
  obtain ⟨T, hT⟩ : ∃ y_, y_ = extOf l t := ⟨_, rfl⟩
  rw [← hT]
  generalize hr : (⟨_, [], none⟩ : Ret) = r
  obtain ⟨ea, hea⟩ : ∃ y_, y_ = row fExt l := ⟨_, rfl⟩
  rw [← hea]
  refine fix_fn2 (fn := ir290) tb_290 rfl rfl (by decide) rfl ?_; intro Q hQ; simp only [shutArgs, shutS, List.map_cons, List.map_nil, ir290, shut_in h0, List.head?_nil, reduceCtorEq, if_false, sExt, sHello, sAnswer, sEdit, sDeal, sBox, sDialed, sKnown]
  intro add sub mul arith eq ne lt le gt ge neg conv mn mx not beq len at' ln bd cut app allS isNil mks set o hP F ho
  have c1 : o 351 [R ea (.sp 0 0), ⟨.val, [⟨.fn 352 [.ptr () [.int .i64 t]], .sh⟩]⟩] = some ⟨[I T], [], none⟩ := by rw [ho, hT, hea]; exact ok351_1 352 rfl _ (tagP t) l hl (fun x _ => ok352 x t rfl) rfl
  cbv
  rw [c1]; cbv
  rw [hQ]; cbv
  exact congrArg some hr

/- impl.AreExts -/
theorem ok258 (l : List Ext) (hl : l.length ≤ 1099511627776) (w : ∀ y ∈ l, y.body.length ≤ 1099511627776) {f0 : Fl} (h0 : inFl f0 = true) : fix Tb md 258 [R (row fExt l) f0] = some ⟨[B (areEx l)], [], none⟩ := by
  obtain ⟨T, hT⟩ : ∃ y_, y_ = exOk [] l := ⟨_, rfl⟩
  rw [show areEx l = (T && decide (l.length ≤ 6)) by rw [hT]; rfl]
  generalize hr : (⟨_, [], none⟩ : Ret) = r
  obtain ⟨ea, hea⟩ : ∃ y_, y_ = row fExt l := ⟨_, rfl⟩
  rw [← hea]
  refine fix_fn2 (fn := ir258) tb_258 rfl rfl (by decide) rfl ?_; intro Q hQ; simp only [shutArgs, shutS, List.map_cons, List.map_nil, ir258, shut_in h0, List.head?_nil, reduceCtorEq, if_false, sExt, sHello, sAnswer, sEdit, sDeal, sBox, sDialed, sKnown]
  intro add sub mul arith eq ne lt le gt ge neg conv mn mx not beq len at' ln bd cut app allS isNil mks set o hP F ho
  have la := F.len_at hea
  have h6 : le (len ea) 6 = decide (l.length ≤ 6) := F.le_n la rfl
  cbv
  refine loop_ind2 hP (σ := List Ext × List Ext × Int × Option (Int × Int × List (List V))) (fun s => match s.2.2.2 with
      | none => [(0, R ea .sh), (2, B false), (5, R ea .sh), (6, I (len ea)), (7, I s.2.2.1)]
      | some j => [(0, R ea .sh), (2, B false), (3, I j.1), (4, ⟨.ptr 45 0, []⟩), (5, R ea .sh), (6, I (len ea)), (7, I s.2.2.1), (45, ⟨.box (), [⟨.int .i64 j.2.1, .sc⟩, ⟨.row () j.2.2, .sh⟩]⟩)]) (fun s => At s.2.2.1 s.2.1.length ∧ l = s.2.1 ++ s.1 ∧ exOk s.2.1 s.1 = T) (fun s => s.1.length) (l, [], 0, none) rfl ⟨rfl, rfl, hT.symm⟩ ?_
  intro c1 Q1 hc1 hQ1
  rintro ⟨suf, pre, i, j⟩ ⟨hi, hl', hb⟩ ih
  simp only at hi hl' hb ih
  cases j with
  | none =>
    cbv
    cases suf with
    | nil =>
      rw [F.lt_f hi la (by simp [hl'])]; cbv
      rw [hQ1]; cbv
      rw [hQ]; cbv
      rw [h6, ← hr, ← hb]; rfl
    | cons x suf =>
      obtain ⟨ix, hix⟩ : ∃ y_, y_ = pre.length * 2 := ⟨_, rfl⟩
      obtain ⟨e1, he1⟩ : ∃ y_, y_ = row fI x.body := ⟨_, rfl⟩
      have l1 := F.len_at he1
      have hx := w x (by rw [hl']; simp)
      have hpre : pre.length ≤ 1099511627776 := by rw [hl'] at hl; simp at hl; omega
      have p0 : at' 2 ea i = some (ix, [.int .i64 x.tag, .row () e1]) := by rw [hix, he1]; exact F.get hi hea hl' (fun _ => rfl) (by decide)
      obtain ⟨b1, hb1⟩ : ∃ y_, y_ = inR x.tag 0 255 := ⟨_, rfl⟩
      obtain ⟨b2, hb2⟩ : ∃ y_, y_ = decide (4 < x.body.length) := ⟨_, rfl⟩
      obtain ⟨b3, hb3⟩ : ∃ y_, y_ = bytes x.body := ⟨_, rfl⟩
      obtain ⟨b4, hb4⟩ : ∃ y_, y_ = pre.any (tagP x.tag) := ⟨_, rfl⟩
      obtain ⟨ep, hep⟩ : ∃ y_, y_ = row fExt pre := ⟨_, rfl⟩
      obtain ⟨v, hv⟩ : ∃ y_, y_ = extOf pre x.tag := ⟨_, rfl⟩
      have g4 : gt (len e1) 4 = b2 := by rw [hb2]; exact F.gt_n l1 rfl
      have c1 : o 232 [I x.tag, I 0, I 255] = some ⟨[B b1], [], none⟩ := by rw [ho, hb1]; exact ok232 ..
      have c3 : o 233 [R e1 (.sp 0 0), I 0, I 255] = some ⟨[B b3], [], none⟩ := by rw [ho, hb3, he1]; exact ok233 _ _ _ hx rfl
      have c4 : o 290 [R ep (.sp 0 0), I x.tag] = some ⟨[I v], [], none⟩ := by rw [ho, hv, hep]; exact ok290 _ _ hpre rfl
      have g5 : ge v 0 = b4 := by rw [F.ge, hv, hb4]; exact ixOf_ge (tagP x.tag) pre 0 (by decide)
      have hT' : T = (b1 && !b2 && b3 && !b4 && exOk (pre ++ [x]) suf) := by rw [← hb, hb1, hb2, hb3, hb4]; rfl
      obtain ⟨n, hn⟩ : ∃ y_, y_ = pre.length := ⟨_, rfl⟩
      have q1 : bd (ln ea) i = some n := by rw [F.ln' hea, hn]; exact F.bd' hi (by rw [hl']; simp)
      have q2 : cut 2 ea n 0 = some ep := by rw [F.cut' hea (fun _ => rfl), hep, hl', hn]; simp
      rw [F.lt_t hi la (by simp [hl'])]; cbv
      rw [p0]; cbv
      rw [c1]; cbv
      refine both (fun d1 => ?_) (fun d1 => ?_) <;> rw [d1] <;> cbv
      · rw [hQ1]; cbv
        rw [hQ]; cbv
        rw [← hr, show T = false by rw [hT', F.not_t d1]; rfl]; rfl
      rw [q1]; cbv
      rw [q2]; cbv
      rw [c4]; cbv
      rw [g5]; cbv
      refine both (fun d4 => ?_) (fun d4 => ?_) <;> rw [d4] <;> cbv
      · rw [hQ1]; cbv
        rw [hQ]; cbv
        rw [← hr, show T = false by rw [hT', d4]; simp]; rfl
      rw [g4]; cbv
      refine both (fun d2 => ?_) (fun d2 => ?_) <;> rw [d2] <;> cbv
      · rw [hQ1]; cbv
        rw [hQ]; cbv
        rw [← hr, show T = false by rw [hT', d2]; simp]; rfl
      rw [c3]; cbv
      refine both (fun d3 => ?_) (fun d3 => ?_) <;> rw [d3] <;> cbv
      · rw [hQ1]; cbv
        rw [hQ]; cbv
        rw [← hr, show T = false by rw [hT', F.not_t d3]; simp]; rfl
      refine ih (suf, pre ++ [x], add .i64 i 1, some (i, x.tag, e1)) ⟨at_len (F.inc hi (by omega)) (by simp), by simp [hl'], ?_⟩ (by simp)
      rw [hT', F.not_f d1, d2, F.not_f d3, d4]; simp
  | some jj =>
    obtain ⟨j3, j4, j5⟩ := jj
    cbv
    cases suf with
    | nil =>
      rw [F.lt_f hi la (by simp [hl'])]; cbv
      rw [hQ1]; cbv
      rw [hQ]; cbv
      rw [h6, ← hr, ← hb]; rfl
    | cons x suf =>
      obtain ⟨ix, hix⟩ : ∃ y_, y_ = pre.length * 2 := ⟨_, rfl⟩
      obtain ⟨e1, he1⟩ : ∃ y_, y_ = row fI x.body := ⟨_, rfl⟩
      have l1 := F.len_at he1
      have hx := w x (by rw [hl']; simp)
      have hpre : pre.length ≤ 1099511627776 := by rw [hl'] at hl; simp at hl; omega
      have p0 : at' 2 ea i = some (ix, [.int .i64 x.tag, .row () e1]) := by rw [hix, he1]; exact F.get hi hea hl' (fun _ => rfl) (by decide)
      obtain ⟨b1, hb1⟩ : ∃ y_, y_ = inR x.tag 0 255 := ⟨_, rfl⟩
      obtain ⟨b2, hb2⟩ : ∃ y_, y_ = decide (4 < x.body.length) := ⟨_, rfl⟩
      obtain ⟨b3, hb3⟩ : ∃ y_, y_ = bytes x.body := ⟨_, rfl⟩
      obtain ⟨b4, hb4⟩ : ∃ y_, y_ = pre.any (tagP x.tag) := ⟨_, rfl⟩
      obtain ⟨ep, hep⟩ : ∃ y_, y_ = row fExt pre := ⟨_, rfl⟩
      obtain ⟨v, hv⟩ : ∃ y_, y_ = extOf pre x.tag := ⟨_, rfl⟩
      have g4 : gt (len e1) 4 = b2 := by rw [hb2]; exact F.gt_n l1 rfl
      have c1 : o 232 [I x.tag, I 0, I 255] = some ⟨[B b1], [], none⟩ := by rw [ho, hb1]; exact ok232 ..
      have c3 : o 233 [R e1 (.sp 0 0), I 0, I 255] = some ⟨[B b3], [], none⟩ := by rw [ho, hb3, he1]; exact ok233 _ _ _ hx rfl
      have c4 : o 290 [R ep (.sp 0 0), I x.tag] = some ⟨[I v], [], none⟩ := by rw [ho, hv, hep]; exact ok290 _ _ hpre rfl
      have g5 : ge v 0 = b4 := by rw [F.ge, hv, hb4]; exact ixOf_ge (tagP x.tag) pre 0 (by decide)
      have hT' : T = (b1 && !b2 && b3 && !b4 && exOk (pre ++ [x]) suf) := by rw [← hb, hb1, hb2, hb3, hb4]; rfl
      obtain ⟨n, hn⟩ : ∃ y_, y_ = pre.length := ⟨_, rfl⟩
      have q1 : bd (ln ea) i = some n := by rw [F.ln' hea, hn]; exact F.bd' hi (by rw [hl']; simp)
      have q2 : cut 2 ea n 0 = some ep := by rw [F.cut' hea (fun _ => rfl), hep, hl', hn]; simp
      rw [F.lt_t hi la (by simp [hl'])]; cbv
      rw [p0]; cbv
      rw [c1]; cbv
      refine both (fun d1 => ?_) (fun d1 => ?_) <;> rw [d1] <;> cbv
      · rw [hQ1]; cbv
        rw [hQ]; cbv
        rw [← hr, show T = false by rw [hT', F.not_t d1]; rfl]; rfl
      rw [q1]; cbv
      rw [q2]; cbv
      rw [c4]; cbv
      rw [g5]; cbv
      refine both (fun d4 => ?_) (fun d4 => ?_) <;> rw [d4] <;> cbv
      · rw [hQ1]; cbv
        rw [hQ]; cbv
        rw [← hr, show T = false by rw [hT', d4]; simp]; rfl
      rw [g4]; cbv
      refine both (fun d2 => ?_) (fun d2 => ?_) <;> rw [d2] <;> cbv
      · rw [hQ1]; cbv
        rw [hQ]; cbv
        rw [← hr, show T = false by rw [hT', d2]; simp]; rfl
      rw [c3]; cbv
      refine both (fun d3 => ?_) (fun d3 => ?_) <;> rw [d3] <;> cbv
      · rw [hQ1]; cbv
        rw [hQ]; cbv
        rw [← hr, show T = false by rw [hT', F.not_t d3]; simp]; rfl
      refine ih (suf, pre ++ [x], add .i64 i 1, some (i, x.tag, e1)) ⟨at_len (F.inc hi (by omega)) (by simp), by simp [hl'], ?_⟩ (by simp)
      rw [hT', F.not_f d1, d2, F.not_f d3, d4]; simp

/- impl.IsHello -/
theorem ok113 (h : Hello) (hv : h.versions.length ≤ 1099511627776) (hl : h.exts.length ≤ 1099511627776) (w : ∀ y ∈ h.exts, y.body.length ≤ 1099511627776) {f0 f1 : Fl} (h0 : inFl f0 = true) (h1 : inFl f1 = true) : fix Tb md 113 [sHello (row fI h.versions) (row fExt h.exts) f0 f1] = some ⟨[B (isHel h)], [], none⟩ := by
  obtain ⟨a, ha⟩ : ∃ y_, y_ = areVer h.versions := ⟨_, rfl⟩
  obtain ⟨b, hb⟩ : ∃ y_, y_ = areEx h.exts := ⟨_, rfl⟩
  rw [show isHel h = (a && b) by rw [ha, hb]; rfl]
  generalize hr : (⟨_, [], none⟩ : Ret) = r
  obtain ⟨ea, hea⟩ : ∃ y_, y_ = row fI h.versions := ⟨_, rfl⟩
  obtain ⟨eb, heb⟩ : ∃ y_, y_ = row fExt h.exts := ⟨_, rfl⟩
  rw [← hea, ← heb]
  refine fix_fn2 (fn := ir113) tb_113 rfl rfl (by decide) rfl ?_; intro Q hQ; simp only [shutArgs, shutS, List.map_cons, List.map_nil, ir113, shut_in h0, shut_in h1, List.head?_nil, reduceCtorEq, if_false, sExt, sHello, sAnswer, sEdit, sDeal, sBox, sDialed, sKnown]
  intro add sub mul arith eq ne lt le gt ge neg conv mn mx not beq len at' ln bd cut app allS isNil mks set o hP F ho
  have c1 : o 255 [R ea (.sp 0 0)] = some ⟨[B a], [], none⟩ := by rw [ho, ha, hea]; exact ok255 _ hv rfl
  have c2 : o 258 [R eb (.sp 0 0)] = some ⟨[B b], [], none⟩ := by rw [ho, hb, heb]; exact ok258 _ hl w rfl
  cbv
  rw [c1]; cbv
  refine both (fun d1 => ?_) (fun d1 => ?_) <;> rw [d1] <;> cbv
  · rw [c2]; cbv
    rw [hQ]; cbv
    rw [← hr, d1]; rfl
  · rw [hQ]; cbv
    rw [← hr, d1]; rfl

def sel {α β : Type} (P : α → Bool) (g : α → β) (l : List α) : List β := (l.filter P).map g
theorem sel_t {α β : Type} {P : α → Bool} {g : α → β} {a : List α} {x : α} (h : P x = true) : sel P g (a ++ [x]) = sel P g a ++ [g x] := by unfold sel; rw [List.filter_append, List.filter_cons, h]; simp
theorem sel_f {α β : Type} {P : α → Bool} {g : α → β} {a : List α} {x : α} (h : P x = false) : sel P g (a ++ [x]) = sel P g a := by unfold sel; rw [List.filter_append, List.filter_cons, h]; simp
theorem sel_len {α β : Type} {P : α → Bool} {g : α → β} {a : List α} : (sel P g a).length ≤ a.length := by unfold sel; rw [List.length_map]; exact List.length_filter_le _ _
def hasI (l : List Int) (n : Int) : Bool := l.any fun y => decide (y = n)
def idE (e : Ext) : Ext := e
def idI (n : Int) : Int := n
theorem sel_idE {P : Ext → Bool} {l : List Ext} : sel P idE l = l.filter P := by unfold sel idE; simp
theorem sel_idI {P : Int → Bool} {l : List Int} : sel P idI l = l.filter P := by unfold sel idI; simp

/- impl.keptExts -/
def onTag (p : Int → Bool) (e : Ext) : Bool := p e.tag
theorem ok264_0 (g : Nat) (hg : md g = []) (p : Int → Bool) (l : List Ext) (hl : l.length ≤ 1073741824) (w : ∀ y ∈ l, y.body.length ≤ 1099511627776) (hp : ∀ x ∈ l, fix Tb md g [I x.tag] = some ⟨[B (p x.tag)], [], none⟩) {f0 : Fl} (h0 : inFl f0 = true) : fix Tb md 264 [R (row fExt l) f0, ⟨.val, [⟨.fn g [], .sh⟩]⟩] = some ⟨[R (row fExt (sel (onTag p) idE l)) (.ow false)], [], none⟩ := by
  generalize hm_ : md = m_ at hg hp ⊢
  obtain ⟨et, het⟩ : ∃ y_, y_ = row fExt (sel (onTag p) idE l) := ⟨_, rfl⟩
  rw [← het]
  generalize hr : (⟨_, [], none⟩ : Ret) = r
  obtain ⟨ea, hea⟩ : ∃ y_, y_ = row fExt l := ⟨_, rfl⟩
  rw [← hea]
  refine fix_fn2 (fn := ir264) tb_264 rfl rfl (by decide) rfl ?_; intro Q hQ; simp only [shutArgs, shutS, List.map_cons, List.map_nil, ir264, shut_in h0, List.head?_nil, reduceCtorEq, if_false, sExt, sHello, sAnswer, sEdit, sDeal, sBox, sDialed, sKnown]
  intro add sub mul arith eq ne lt le gt ge neg conv mn mx not beq len at' ln bd cut app allS isNil mks set o hP F ho
  have la := F.len_at hea
  cbv
  refine loop_ind2 hP (σ := List Ext × List Ext × List (List V) × Int × Option (Int × List (List V))) (fun s => match s.2.2.2.2 with | none => [(0, R ea .sh), (1, ⟨.val, [⟨.fn g [], .sh⟩]⟩), (4, R [] .nl), (5, R s.2.2.1 (.ow false)), (9, R ea .sh), (10, I (len ea)), (11, I s.2.2.2.1)] | some j => [(0, R ea .sh), (1, ⟨.val, [⟨.fn g [], .sh⟩]⟩), (4, R [] .nl), (5, R s.2.2.1 (.ow false)), (7, ⟨.ptr 38 0, []⟩), (9, R ea .sh), (10, I (len ea)), (11, I s.2.2.2.1), (38, ⟨.box (), [⟨.int .i64 j.1, .sc⟩, ⟨.row () j.2, .sh⟩]⟩)]) (fun s => At s.2.2.2.1 s.2.1.length ∧ l = s.2.1 ++ s.1 ∧ s.2.2.1 = row fExt (sel (onTag p) idE s.2.1)) (fun s => s.1.length) (l, [], [], 0, none) rfl ⟨rfl, rfl, rfl⟩ ?_
  intro c1 Q1 hc1 hQ1
  rintro ⟨suf, pre, eo, i, j⟩ ⟨hi, hl', hb⟩ ih
  simp only at hi hl' hb ih
  cases j with
  | none =>
    cbv
    cases suf with
    | nil =>
      rw [F.lt_f hi la (by simp [hl'])]; cbv
      rw [hQ1]; cbv
      rw [hQ]; cbv
      rw [← hr, het, hb, hl', List.append_nil]
    | cons x suf =>
      obtain ⟨ix, hix⟩ : ∃ y_, y_ = pre.length * 2 := ⟨_, rfl⟩
      have hpre : pre.length ≤ 1073741824 := by rw [hl'] at hl; simp at hl; omega
      have hs : (sel (onTag p) idE pre).length ≤ pre.length := sel_len
      have hi' : At (add .i64 i 1) (pre ++ [x]).length := at_len (F.inc hi (by omega)) (by simp)
      have hl2 : l = (pre ++ [x]) ++ suf := by rw [hl']; simp
      have hmem : x ∈ l := by rw [hl']; simp
      obtain ⟨e1, he1⟩ : ∃ y_, y_ = row fI x.body := ⟨_, rfl⟩
      have hx := w x hmem
      have p0 : at' 2 ea i = some (ix, [.int .i64 x.tag, .row () e1]) := by rw [hix, he1]; exact F.get hi hea hl' (fun _ => rfl) (by decide)
      obtain ⟨v, hv⟩ : ∃ y_, y_ = onTag p x := ⟨_, rfl⟩
      have c2 : o g [I x.tag] = some ⟨[B v], [], none⟩ := by rw [ho, hv]; exact hp x hmem
      rw [F.lt_t hi la (by simp [hl'])]; cbv
      rw [p0]; cbv
      rw [hg]; cbv
      rw [c2]; cbv
      refine both (fun d => ?_) (fun d => ?_) <;> rw [d] <;> cbv
      · rw [show allS e1 = true from F.scal he1 (fun _ => rfl)]; cbv
        rw [F.app_nil he1 (fun _ => rfl) hx]; cbv
        rw [show allS [[.int .i64 x.tag, .row () e1]] = false by rw [F.allS]; rfl]; cbv
        obtain ⟨eo', heo'⟩ : ∃ y_, y_ = row fExt (sel (onTag p) idE pre ++ [idE x]) := ⟨_, rfl⟩
        rw [show app 2 eo [[.int .i64 x.tag, .row () e1]] = some eo' by rw [heo', he1]; exact F.push hb (fun _ => rfl) rfl (by omega)]; cbv
        refine ih (suf, pre ++ [x], eo', add .i64 i 1, some (x.tag, e1)) ⟨hi', hl2, by simp only; rw [heo', sel_t (by rw [← hv, d])]⟩ (by simp)
      · refine ih (suf, pre ++ [x], eo, add .i64 i 1, some (x.tag, e1)) ⟨hi', hl2, by simp only; rw [hb, sel_f (by rw [← hv, d])]⟩ (by simp)
  | some jj =>
    obtain ⟨j1, j2⟩ := jj
    cbv
    cases suf with
    | nil =>
      rw [F.lt_f hi la (by simp [hl'])]; cbv
      rw [hQ1]; cbv
      rw [hQ]; cbv
      rw [← hr, het, hb, hl', List.append_nil]
    | cons x suf =>
      obtain ⟨ix, hix⟩ : ∃ y_, y_ = pre.length * 2 := ⟨_, rfl⟩
      have hpre : pre.length ≤ 1073741824 := by rw [hl'] at hl; simp at hl; omega
      have hs : (sel (onTag p) idE pre).length ≤ pre.length := sel_len
      have hi' : At (add .i64 i 1) (pre ++ [x]).length := at_len (F.inc hi (by omega)) (by simp)
      have hl2 : l = (pre ++ [x]) ++ suf := by rw [hl']; simp
      have hmem : x ∈ l := by rw [hl']; simp
      obtain ⟨e1, he1⟩ : ∃ y_, y_ = row fI x.body := ⟨_, rfl⟩
      have hx := w x hmem
      have p0 : at' 2 ea i = some (ix, [.int .i64 x.tag, .row () e1]) := by rw [hix, he1]; exact F.get hi hea hl' (fun _ => rfl) (by decide)
      obtain ⟨v, hv⟩ : ∃ y_, y_ = onTag p x := ⟨_, rfl⟩
      have c2 : o g [I x.tag] = some ⟨[B v], [], none⟩ := by rw [ho, hv]; exact hp x hmem
      rw [F.lt_t hi la (by simp [hl'])]; cbv
      rw [p0]; cbv
      rw [hg]; cbv
      rw [c2]; cbv
      refine both (fun d => ?_) (fun d => ?_) <;> rw [d] <;> cbv
      · rw [show allS e1 = true from F.scal he1 (fun _ => rfl)]; cbv
        rw [F.app_nil he1 (fun _ => rfl) hx]; cbv
        rw [show allS [[.int .i64 x.tag, .row () e1]] = false by rw [F.allS]; rfl]; cbv
        obtain ⟨eo', heo'⟩ : ∃ y_, y_ = row fExt (sel (onTag p) idE pre ++ [idE x]) := ⟨_, rfl⟩
        rw [show app 2 eo [[.int .i64 x.tag, .row () e1]] = some eo' by rw [heo', he1]; exact F.push hb (fun _ => rfl) rfl (by omega)]; cbv
        refine ih (suf, pre ++ [x], eo', add .i64 i 1, some (x.tag, e1)) ⟨hi', hl2, by simp only; rw [heo', sel_t (by rw [← hv, d])]⟩ (by simp)
      · refine ih (suf, pre ++ [x], eo, add .i64 i 1, some (x.tag, e1)) ⟨hi', hl2, by simp only; rw [hb, sel_f (by rw [← hv, d])]⟩ (by simp)
theorem ok264_1 (g : Nat) (hg : md g = []) (k0 : V) (p : Int → Bool) (l : List Ext) (hl : l.length ≤ 1073741824) (w : ∀ y ∈ l, y.body.length ≤ 1099511627776) (hp : ∀ x ∈ l, fix Tb md g [I x.tag, ⟨.val, [⟨k0, .sh⟩]⟩] = some ⟨[B (p x.tag)], [], none⟩) {f0 : Fl} (h0 : inFl f0 = true) : fix Tb md 264 [R (row fExt l) f0, ⟨.val, [⟨.fn g [k0], .sh⟩]⟩] = some ⟨[R (row fExt (sel (onTag p) idE l)) (.ow false)], [], none⟩ := by
  generalize hm_ : md = m_ at hg hp ⊢
  obtain ⟨et, het⟩ : ∃ y_, y_ = row fExt (sel (onTag p) idE l) := ⟨_, rfl⟩
  rw [← het]
  generalize hr : (⟨_, [], none⟩ : Ret) = r
  obtain ⟨ea, hea⟩ : ∃ y_, y_ = row fExt l := ⟨_, rfl⟩
  rw [← hea]
  refine fix_fn2 (fn := ir264) tb_264 rfl rfl (by decide) rfl ?_; intro Q hQ; simp only [shutArgs, shutS, List.map_cons, List.map_nil, ir264, shut_in h0, List.head?_nil, reduceCtorEq, if_false, sExt, sHello, sAnswer, sEdit, sDeal, sBox, sDialed, sKnown]
  intro add sub mul arith eq ne lt le gt ge neg conv mn mx not beq len at' ln bd cut app allS isNil mks set o hP F ho
  have la := F.len_at hea
  cbv
  refine loop_ind2 hP (σ := List Ext × List Ext × List (List V) × Int × Option (Int × List (List V))) (fun s => match s.2.2.2.2 with | none => [(0, R ea .sh), (1, ⟨.val, [⟨.fn g [k0], .sh⟩]⟩), (4, R [] .nl), (5, R s.2.2.1 (.ow false)), (9, R ea .sh), (10, I (len ea)), (11, I s.2.2.2.1)] | some j => [(0, R ea .sh), (1, ⟨.val, [⟨.fn g [k0], .sh⟩]⟩), (4, R [] .nl), (5, R s.2.2.1 (.ow false)), (7, ⟨.ptr 38 0, []⟩), (9, R ea .sh), (10, I (len ea)), (11, I s.2.2.2.1), (38, ⟨.box (), [⟨.int .i64 j.1, .sc⟩, ⟨.row () j.2, .sh⟩]⟩)]) (fun s => At s.2.2.2.1 s.2.1.length ∧ l = s.2.1 ++ s.1 ∧ s.2.2.1 = row fExt (sel (onTag p) idE s.2.1)) (fun s => s.1.length) (l, [], [], 0, none) rfl ⟨rfl, rfl, rfl⟩ ?_
  intro c1 Q1 hc1 hQ1
  rintro ⟨suf, pre, eo, i, j⟩ ⟨hi, hl', hb⟩ ih
  simp only at hi hl' hb ih
  cases j with
  | none =>
    cbv
    cases suf with
    | nil =>
      rw [F.lt_f hi la (by simp [hl'])]; cbv
      rw [hQ1]; cbv
      rw [hQ]; cbv
      rw [← hr, het, hb, hl', List.append_nil]
    | cons x suf =>
      obtain ⟨ix, hix⟩ : ∃ y_, y_ = pre.length * 2 := ⟨_, rfl⟩
      have hpre : pre.length ≤ 1073741824 := by rw [hl'] at hl; simp at hl; omega
      have hs : (sel (onTag p) idE pre).length ≤ pre.length := sel_len
      have hi' : At (add .i64 i 1) (pre ++ [x]).length := at_len (F.inc hi (by omega)) (by simp)
      have hl2 : l = (pre ++ [x]) ++ suf := by rw [hl']; simp
      have hmem : x ∈ l := by rw [hl']; simp
      obtain ⟨e1, he1⟩ : ∃ y_, y_ = row fI x.body := ⟨_, rfl⟩
      have hx := w x hmem
      have p0 : at' 2 ea i = some (ix, [.int .i64 x.tag, .row () e1]) := by rw [hix, he1]; exact F.get hi hea hl' (fun _ => rfl) (by decide)
      obtain ⟨v, hv⟩ : ∃ y_, y_ = onTag p x := ⟨_, rfl⟩
      have c2 : o g [I x.tag, ⟨.val, [⟨k0, .sh⟩]⟩] = some ⟨[B v], [], none⟩ := by rw [ho, hv]; exact hp x hmem
      rw [F.lt_t hi la (by simp [hl'])]; cbv
      rw [p0]; cbv
      rw [hg]; cbv
      rw [c2]; cbv
      refine both (fun d => ?_) (fun d => ?_) <;> rw [d] <;> cbv
      · rw [show allS e1 = true from F.scal he1 (fun _ => rfl)]; cbv
        rw [F.app_nil he1 (fun _ => rfl) hx]; cbv
        rw [show allS [[.int .i64 x.tag, .row () e1]] = false by rw [F.allS]; rfl]; cbv
        obtain ⟨eo', heo'⟩ : ∃ y_, y_ = row fExt (sel (onTag p) idE pre ++ [idE x]) := ⟨_, rfl⟩
        rw [show app 2 eo [[.int .i64 x.tag, .row () e1]] = some eo' by rw [heo', he1]; exact F.push hb (fun _ => rfl) rfl (by omega)]; cbv
        refine ih (suf, pre ++ [x], eo', add .i64 i 1, some (x.tag, e1)) ⟨hi', hl2, by simp only; rw [heo', sel_t (by rw [← hv, d])]⟩ (by simp)
      · refine ih (suf, pre ++ [x], eo, add .i64 i 1, some (x.tag, e1)) ⟨hi', hl2, by simp only; rw [hb, sel_f (by rw [← hv, d])]⟩ (by simp)
  | some jj =>
    obtain ⟨j1, j2⟩ := jj
    cbv
    cases suf with
    | nil =>
      rw [F.lt_f hi la (by simp [hl'])]; cbv
      rw [hQ1]; cbv
      rw [hQ]; cbv
      rw [← hr, het, hb, hl', List.append_nil]
    | cons x suf =>
      obtain ⟨ix, hix⟩ : ∃ y_, y_ = pre.length * 2 := ⟨_, rfl⟩
      have hpre : pre.length ≤ 1073741824 := by rw [hl'] at hl; simp at hl; omega
      have hs : (sel (onTag p) idE pre).length ≤ pre.length := sel_len
      have hi' : At (add .i64 i 1) (pre ++ [x]).length := at_len (F.inc hi (by omega)) (by simp)
      have hl2 : l = (pre ++ [x]) ++ suf := by rw [hl']; simp
      have hmem : x ∈ l := by rw [hl']; simp
      obtain ⟨e1, he1⟩ : ∃ y_, y_ = row fI x.body := ⟨_, rfl⟩
      have hx := w x hmem
      have p0 : at' 2 ea i = some (ix, [.int .i64 x.tag, .row () e1]) := by rw [hix, he1]; exact F.get hi hea hl' (fun _ => rfl) (by decide)
      obtain ⟨v, hv⟩ : ∃ y_, y_ = onTag p x := ⟨_, rfl⟩
      have c2 : o g [I x.tag, ⟨.val, [⟨k0, .sh⟩]⟩] = some ⟨[B v], [], none⟩ := by rw [ho, hv]; exact hp x hmem
      rw [F.lt_t hi la (by simp [hl'])]; cbv
      rw [p0]; cbv
      rw [hg]; cbv
      rw [c2]; cbv
      refine both (fun d => ?_) (fun d => ?_) <;> rw [d] <;> cbv
      · rw [show allS e1 = true from F.scal he1 (fun _ => rfl)]; cbv
        rw [F.app_nil he1 (fun _ => rfl) hx]; cbv
        rw [show allS [[.int .i64 x.tag, .row () e1]] = false by rw [F.allS]; rfl]; cbv
        obtain ⟨eo', heo'⟩ : ∃ y_, y_ = row fExt (sel (onTag p) idE pre ++ [idE x]) := ⟨_, rfl⟩
        rw [show app 2 eo [[.int .i64 x.tag, .row () e1]] = some eo' by rw [heo', he1]; exact F.push hb (fun _ => rfl) rfl (by omega)]; cbv
        refine ih (suf, pre ++ [x], eo', add .i64 i 1, some (x.tag, e1)) ⟨hi', hl2, by simp only; rw [heo', sel_t (by rw [← hv, d])]⟩ (by simp)
      · refine ih (suf, pre ++ [x], eo, add .i64 i 1, some (x.tag, e1)) ⟨hi', hl2, by simp only; rw [hb, sel_f (by rw [← hv, d])]⟩ (by simp)

/- slices.Clone[[]int,int] -/
theorem ok299 (l : List Int) (hl : l.length ≤ 1099511627776) {f0 : Fl} (h0 : inFl f0 = true) : fix Tb md 299 [R (row fI l) f0] = some ⟨[R (row fI l) (.ow false)], [], none⟩ := by
  refine fix_special tb_299 (by decide) ?_
  show special 1 _ = _
  have h1 : (row fI l).all (fun e => e.all scal && e.length = 1) = true := by
    rw [List.all_eq_true]; intro e he
    obtain ⟨x, _, rfl⟩ := List.mem_map.1 he
    rfl
  have h2 : (row fI l).length ≤ lim := by unfold row; simpa [lim] using hl
  have h3 : inF0 f0 = true := by cases f0 <;> first | rfl | cases h0
  show special 1 [⟨.val, [⟨.row () (row fI l), f0⟩]⟩] = _
  simp only [special, h1, h3, decide_eq_true h2, Bool.and_self, if_true]

/- impl.Ext] -/
theorem ok288_0 (g : Nat) (hg : md g = []) (p : Ext → Bool) (l : List Ext) (hl : l.length ≤ 1099511627776) (hp : ∀ x ∈ l, fix Tb md g [sExt x.tag (row fI x.body) (.sp 0 1)] = some ⟨[B (p x)], [], none⟩) {f0 : Fl} (h0 : inFl f0 = true) :
    fix Tb md 288 [R (row fExt l) f0, ⟨.val, [⟨.fn g [], .sh⟩]⟩] = some ⟨[B (l.any p)], [], none⟩ := by
  refine fix_fn (fn := ir288) tb_288 rfl rfl (by decide) rfl ?_; simp only [shutArgs, shutS, List.map_cons, List.map_nil, ir288, shut_in h0, List.head?_nil, reduceCtorEq, if_false, sExt, sHello, sAnswer, sEdit, sDeal, sBox, sDialed, sKnown]
  generalize hr : (⟨_, [], none⟩ : Ret) = r
  obtain ⟨ea, hea⟩ : ∃ y_, y_ = row fExt l := ⟨_, rfl⟩
  rw [← hea]
  obtain ⟨v, hv⟩ : ∃ y_, y_ = ixOf p l 0 := ⟨_, rfl⟩
  have hv2 : decide (0 ≤ v) = l.any p := by rw [hv]; exact ixOf_ge p l 0 (by decide)
  rw [← hv2] at hr
  clear hv2
  intro add sub mul arith eq ne lt le gt ge neg conv mn mx not beq len at' ln bd cut app allS isNil mks set o hP F ho
  have c1 : o 351 [R ea (.sp 0 0), ⟨.val, [⟨.fn g [], .sh⟩]⟩] = some ⟨[I v], [], none⟩ := by rw [ho, hv, hea]; exact ok351_0 g hg p l hl hp rfl
  cbv
  rw [c1]; cbv
  rw [← hr, F.ge]
theorem ok288_1 (g : Nat) (hg : md g = []) (k0 : V) (p : Ext → Bool) (l : List Ext) (hl : l.length ≤ 1099511627776) (hp : ∀ x ∈ l, fix Tb md g [sExt x.tag (row fI x.body) (.sp 0 1), ⟨.val, [⟨k0, .sh⟩]⟩] = some ⟨[B (p x)], [], none⟩) {f0 : Fl} (h0 : inFl f0 = true) :
    fix Tb md 288 [R (row fExt l) f0, ⟨.val, [⟨.fn g [k0], .sh⟩]⟩] = some ⟨[B (l.any p)], [], none⟩ := by
  refine fix_fn (fn := ir288) tb_288 rfl rfl (by decide) rfl ?_; simp only [shutArgs, shutS, List.map_cons, List.map_nil, ir288, shut_in h0, List.head?_nil, reduceCtorEq, if_false, sExt, sHello, sAnswer, sEdit, sDeal, sBox, sDialed, sKnown]
  generalize hr : (⟨_, [], none⟩ : Ret) = r
  obtain ⟨ea, hea⟩ : ∃ y_, y_ = row fExt l := ⟨_, rfl⟩
  rw [← hea]
  obtain ⟨v, hv⟩ : ∃ y_, y_ = ixOf p l 0 := ⟨_, rfl⟩
  have hv2 : decide (0 ≤ v) = l.any p := by rw [hv]; exact ixOf_ge p l 0 (by decide)
  rw [← hv2] at hr
  clear hv2
  intro add sub mul arith eq ne lt le gt ge neg conv mn mx not beq len at' ln bd cut app allS isNil mks set o hP F ho
  have c1 : o 351 [R ea (.sp 0 0), ⟨.val, [⟨.fn g [k0], .sh⟩]⟩] = some ⟨[I v], [], none⟩ := by rw [ho, hv, hea]; exact ok351_1 g hg k0 p l hl hp rfl
  cbv
  rw [c1]; cbv
  rw [← hr, F.ge]
theorem ok288_2 (g : Nat) (hg : md g = []) (k0 k1 : V) (p : Ext → Bool) (l : List Ext) (hl : l.length ≤ 1099511627776) (hp : ∀ x ∈ l, fix Tb md g [sExt x.tag (row fI x.body) (.sp 0 1), ⟨.val, [⟨k0, .sh⟩]⟩, ⟨.val, [⟨k1, .sh⟩]⟩] = some ⟨[B (p x)], [], none⟩) {f0 : Fl} (h0 : inFl f0 = true) :
    fix Tb md 288 [R (row fExt l) f0, ⟨.val, [⟨.fn g [k0, k1], .sh⟩]⟩] = some ⟨[B (l.any p)], [], none⟩ := by
  refine fix_fn (fn := ir288) tb_288 rfl rfl (by decide) rfl ?_; simp only [shutArgs, shutS, List.map_cons, List.map_nil, ir288, shut_in h0, List.head?_nil, reduceCtorEq, if_false, sExt, sHello, sAnswer, sEdit, sDeal, sBox, sDialed, sKnown]
  generalize hr : (⟨_, [], none⟩ : Ret) = r
  obtain ⟨ea, hea⟩ : ∃ y_, y_ = row fExt l := ⟨_, rfl⟩
  rw [← hea]
  obtain ⟨v, hv⟩ : ∃ y_, y_ = ixOf p l 0 := ⟨_, rfl⟩
  have hv2 : decide (0 ≤ v) = l.any p := by rw [hv]; exact ixOf_ge p l 0 (by decide)
  rw [← hv2] at hr
  clear hv2
  intro add sub mul arith eq ne lt le gt ge neg conv mn mx not beq len at' ln bd cut app allS isNil mks set o hP F ho
  have c1 : o 351 [R ea (.sp 0 0), ⟨.val, [⟨.fn g [k0, k1], .sh⟩]⟩] = some ⟨[I v], [], none⟩ := by rw [ho, hv, hea]; exact ok351_2 g hg k0 k1 p l hl hp rfl
  cbv
  rw [c1]; cbv
  rw [← hr, F.ge]

/- spec.l9Has -/
theorem ok285 (l : List Int) (n : Int) (hl : l.length ≤ 1099511627776) {f0 : Fl} (h0 : inFl f0 = true) : fix Tb md 285 [R (row fI l) f0, I n] = some ⟨[B (hasI l n)], [], none⟩ := by
  obtain ⟨T, hT⟩ : ∃ y_, y_ = hasI l n := ⟨_, rfl⟩
  rw [← hT]
  generalize hr : (⟨_, [], none⟩ : Ret) = r
  obtain ⟨ea, hea⟩ : ∃ y_, y_ = row fI l := ⟨_, rfl⟩
  rw [← hea]
  refine fix_fn2 (fn := ir285) tb_285 rfl rfl (by decide) rfl ?_; intro Q hQ; simp only [shutArgs, shutS, List.map_cons, List.map_nil, ir285, shut_in h0, List.head?_nil, reduceCtorEq, if_false, sExt, sHello, sAnswer, sEdit, sDeal, sBox, sDialed, sKnown]
  intro add sub mul arith eq ne lt le gt ge neg conv mn mx not beq len at' ln bd cut app allS isNil mks set o hP F ho
  have la := F.len_at hea
  cbv
  refine loop_ind2 hP (σ := List Int × List Int × Int) (fun s => [(0, R ea .sh), (1, I n), (4, B false), (5, I s.2.2)]) (fun s => At s.2.2 s.2.1.length ∧ l = s.2.1 ++ s.1 ∧ hasI s.1 n = T) (fun s => s.1.length) (l, [], 0) rfl ⟨rfl, rfl, hT.symm⟩ ?_
  intro c1 Q1 hc1 hQ1
  rintro ⟨suf, pre, i⟩ ⟨hi, hl', hb⟩ ih
  simp only at hi hl' hb ih
  cbv
  cases suf with
  | nil =>
    rw [F.lt_f hi la (by simp [hl'])]; cbv
    rw [hQ1]; cbv
    rw [hQ]; cbv
    rw [← hr, ← hb]; rfl
  | cons x suf =>
    obtain ⟨v, hv⟩ : ∃ y_, y_ = decide (x = n) := ⟨_, rfl⟩
    have hT' : T = (v || hasI suf n) := by rw [← hb, hv]; rfl
    obtain ⟨ix, hix⟩ : ∃ y_, y_ = pre.length * 1 := ⟨_, rfl⟩
    rw [F.lt_t hi la (by simp [hl'])]; cbv
    rw [show at' 1 ea i = some (ix, [.int .i64 x]) by rw [hix]; exact F.get hi hea hl' (fun _ => rfl) (by decide)]; cbv
    rw [show eq x n = v by rw [F.eq, hv]]; cbv
    refine both (fun d => ?_) (fun d => ?_) <;> rw [d] <;> cbv
    · rw [hQ1]; cbv
      rw [hQ]; cbv
      rw [← hr, hT', d]; rfl
    · refine ih (suf, pre ++ [x], add .i64 i 1) ⟨at_len (F.inc hi (by simp [hl'] at hl; omega)) (by simp), by simp [hl'], ?_⟩ (by simp)
      rw [hT', d]; rfl

/- spec.IsBox -/
def isBox (limit : Int) (drops strips : List Int) : Bool := inR limit 0 9 && decide (drops.length ≤ 6) && decide (strips.length ≤ 6) && bytes drops && bytes strips
theorem ok68 (limit : Int) (drops strips : List Int) (lists : Bool) (hd : drops.length ≤ 1099511627776) (hs : strips.length ≤ 1099511627776) {f0 f1 : Fl} (h0 : inFl f0 = true) (h1 : inFl f1 = true) :
    fix Tb md 68 [⟨.agg, [⟨.int .i64 limit, .sc⟩, ⟨.row () (row fI drops), f0⟩, ⟨.row () (row fI strips), f1⟩, ⟨.bool lists, .sc⟩]⟩] = some ⟨[B (isBox limit drops strips)], [], none⟩ := by
  refine fix_fn (fn := ir68) tb_68 rfl rfl (by decide) rfl ?_; simp only [shutArgs, shutS, List.map_cons, List.map_nil, ir68, shut_in h0, shut_in h1, List.head?_nil, reduceCtorEq, if_false, sExt, sHello, sAnswer, sEdit, sDeal, sBox, sDialed, sKnown]
  generalize hr : (⟨_, [], none⟩ : Ret) = r
  obtain ⟨ed, hed⟩ : ∃ y_, y_ = row fI drops := ⟨_, rfl⟩
  obtain ⟨es, hes⟩ : ∃ y_, y_ = row fI strips := ⟨_, rfl⟩
  rw [← hed, ← hes]
  obtain ⟨v1, hv1⟩ : ∃ y_, y_ = inR limit 0 9 := ⟨_, rfl⟩
  obtain ⟨v2, hv2⟩ : ∃ y_, y_ = bytes drops := ⟨_, rfl⟩
  obtain ⟨v3, hv3⟩ : ∃ y_, y_ = bytes strips := ⟨_, rfl⟩
  intro add sub mul arith eq ne lt le gt ge neg conv mn mx not beq len at' ln bd cut app allS isNil mks set o hP F ho
  have ld := F.len_at hed
  have ls := F.len_at hes
  have c1 : o 230 [I limit, I 0, I 9] = some ⟨[B v1], [], none⟩ := by rw [ho, hv1]; exact ok230 ..
  have c2 : o 231 [R ed (.sp 0 0)] = some ⟨[B v2], [], none⟩ := by rw [ho, hv2, hed]; exact ok231 _ hd rfl
  have c3 : o 231 [R es (.sp 0 0)] = some ⟨[B v3], [], none⟩ := by rw [ho, hv3, hes]; exact ok231 _ hs rfl
  cbv
  repeat' (first | (rw [c1]; cbv) | (rw [c2]; cbv) | (rw [c3]; cbv) | (refine both (fun c => ?_) (fun c => ?_) <;> (try rw [c]) <;> (try cbv)))
  all_goals (clear hP c1 c2 c3 ho; unfold At at ld ls; try simp only [F.eq, F.ne, F.le, F.lt, F.ge, F.gt, F.not, F.beq, ld, ls] at *; clear F; subst hr)
  all_goals (simp_all [isBox] <;> (intros; omega))

def lastI (l : List Int) : Int := (l.getLast?).getD 0
def stripE (b : List Int) (e : Ext) : Bool := !hasI b e.tag
def lost (b : Box) (e : Ext) : Bool := hasI b.drops e.tag || (b.lists && !hasI b.strips e.tag && !inR e.tag 1 3)
def overL (b : Box) (h : Hello) : Bool := decide (0 < b.limit) && decide (b.limit < lastI h.versions)
def pbOk (b : Box) (h : Hello) : Bool := isBox b.limit b.drops b.strips && isHel h && !overL b h && !h.exts.any (lost b)
def pbV (b : Box) (h : Hello) : Hello := if pbOk b h then ⟨h.versions, sel (stripE b.strips) idE h.exts⟩ else ⟨[], []⟩
theorem pbV_mid {b : Box} {h : Hello} (m : h.Mid) : (pbV b h).Mid := by
  unfold pbV
  split
  · unfold Hello.Mid at *
    exact ⟨m.1, Nat.le_trans sel_len m.2.1, fun y hy => m.2.2 y (by simp only [sel_idE] at hy; exact (List.mem_filter.1 hy).1)⟩
  · exact ⟨by simp, by simp, by simp⟩
theorem isHel_ne {h : Hello} (hh : isHel h = true) : ∃ p y, h.versions = p ++ [y] ∧ lastI h.versions = y := by
  unfold isHel areVer at hh
  simp only [Bool.and_eq_true, decide_eq_true_eq] at hh
  rcases List.eq_nil_or_concat h.versions with h0 | ⟨p, y, h0⟩
  · rw [h0] at hh; simp at hh
  · rw [List.concat_eq_append] at h0; exact ⟨p, y, h0, by rw [h0]; simp [lastI]⟩
def maxGo (m : Int) : List Int → Int
  | [] => m
  | x :: xs => maxGo (if x > m then x else m) xs
theorem max_last : ∀ (xs pre : List Int) (m : Int), verGo (pre ++ [m]) xs = true → maxGo m xs = lastI (m :: xs)
  | [], _, m, _ => rfl
  | x :: xs, pre, m, h => by
    unfold verGo at h
    simp only [Bool.and_eq_true] at h
    obtain ⟨⟨_, h2⟩, h3⟩ := h
    have hx : x > m := by simp at h2; omega
    show maxGo (if x > m then x else m) xs = _
    rw [if_pos hx, max_last xs (pre ++ [m]) x h3]
    show _ = lastI (m :: x :: xs)
    simp [lastI]
theorem max_hel {x : Int} {xs : List Int} (h : areVer (x :: xs) = true) : maxGo x xs = lastI (x :: xs) := by
  unfold areVer at h
  simp only [Bool.and_eq_true] at h
  have h1 := h.1
  unfold verGo at h1
  simp only [Bool.and_eq_true] at h1
  exact max_last xs [] x h1.2

/- slices.Max[[]int,int] -/
theorem ok358 (x : Int) (xs : List Int) (hl : (x :: xs).length ≤ 1099511627776) {f0 : Fl} (h0 : inFl f0 = true) : fix Tb md 358 [R (row fI (x :: xs)) f0] = some ⟨[I (maxGo x xs)], [], none⟩ := by
  obtain ⟨T, hT⟩ : ∃ y_, y_ = maxGo x xs := ⟨_, rfl⟩
  rw [← hT]
  generalize hr : (⟨_, [], none⟩ : Ret) = r
  obtain ⟨l, hl0⟩ : ∃ y_, y_ = x :: xs := ⟨_, rfl⟩
  rw [← hl0] at hl ⊢
  obtain ⟨ea, hea⟩ : ∃ y_, y_ = row fI l := ⟨_, rfl⟩
  rw [← hea]
  refine fix_fn2 (fn := ir358) tb_358 rfl rfl (by decide) rfl ?_; intro Q hQ; simp only [shutArgs, shutS, List.map_cons, List.map_nil, ir358, shut_in h0, List.head?_nil, reduceCtorEq, if_false, sExt, sHello, sAnswer, sEdit, sDeal, sBox, sDialed, sKnown]
  intro add sub mul arith eq ne lt le gt ge neg conv mn mx not beq len at' ln bd cut app allS isNil mks set o hP F ho
  have la := F.len_at hea
  have g0 : lt (len ea) 1 = false := by rw [F.lt_n la (k := 1) (m := 1) rfl, hl0]; simp
  obtain ⟨ix0, hix0⟩ : ∃ y_, y_ = ([] : List Int).length * 1 := ⟨_, rfl⟩
  have p00 : at' 1 ea 0 = some (ix0, [.int .i64 x]) := by rw [hix0]; exact F.get (pre := []) (i := 0) (show At 0 0 from rfl) hea hl0 (fun _ => rfl) (by decide)
  cbv
  rw [g0]; cbv
  rw [p00]; cbv
  refine loop_ind2 hP (σ := List Int × List Int × Int × Int) (fun s => [(0, R ea .sh), (2, I 0), (3, I s.2.2.1), (4, I s.2.2.2)]) (fun s => At s.2.2.2 s.2.1.length ∧ l = s.2.1 ++ s.1 ∧ maxGo s.2.2.1 s.1 = T) (fun s => s.1.length) (xs, [x], x, 1) rfl ⟨rfl, hl0, hT.symm⟩ ?_
  intro c1 Q1 hc1 hQ1
  rintro ⟨suf, pre, m, i⟩ ⟨hi, hl', hb⟩ ih
  simp only at hi hl' hb ih
  cbv
  cases suf with
  | nil =>
    rw [F.lt_f hi la (by simp [hl'])]; cbv
    rw [hQ1]; cbv
    rw [hQ]; cbv
    rw [← hr, ← hb]; rfl
  | cons y suf =>
    obtain ⟨ix, hix⟩ : ∃ y_, y_ = pre.length * 1 := ⟨_, rfl⟩
    have p0 : at' 1 ea i = some (ix, [.int .i64 y]) := by rw [hix]; exact F.get hi hea hl' (fun _ => rfl) (by decide)
    rw [F.lt_t hi la (by simp [hl'])]; cbv
    rw [p0]; cbv
    refine ih (suf, pre ++ [y], mx m y, add .i64 i 1) ⟨at_len (F.inc hi (by simp [hl'] at hl; omega)) (by simp), by simp [hl'], ?_⟩ (by simp)
    simp only
    rw [F.mx]; exact hb

/- slices.Index[[]int,int] -/
theorem hasI_ix (l : List Int) (n : Int) : decide (0 ≤ ixOf (fun y => decide (y = n)) l 0) = hasI l n := ixOf_ge _ l 0 (by decide)
theorem ok354 (l : List Int) (n : Int) (hl : l.length ≤ 1099511627776) {f0 : Fl} (h0 : inFl f0 = true) : fix Tb md 354 [R (row fI l) f0, I n] = some ⟨[I (ixOf (fun y => decide (y = n)) l 0)], [], none⟩ := by
  obtain ⟨T, hT⟩ : ∃ y_, y_ = ixOf (fun y => decide (y = n)) l 0 := ⟨_, rfl⟩
  rw [← hT]
  generalize hr : (⟨_, [], none⟩ : Ret) = r
  obtain ⟨ea, hea⟩ : ∃ y_, y_ = row fI l := ⟨_, rfl⟩
  rw [← hea]
  refine fix_fn2 (fn := ir354) tb_354 rfl rfl (by decide) rfl ?_; intro Q hQ; simp only [shutArgs, shutS, List.map_cons, List.map_nil, ir354, shut_in h0, List.head?_nil, reduceCtorEq, if_false, sExt, sHello, sAnswer, sEdit, sDeal, sBox, sDialed, sKnown]
  intro add sub mul arith eq ne lt le gt ge neg conv mn mx not beq len at' ln bd cut app allS isNil mks set o hP F ho
  have la := F.len_at hea
  cbv
  refine loop_ind2 hP (σ := List Int × List Int × Int × Option Int) (fun s => match s.2.2.2 with | none => [(0, R ea .sh), (1, I n), (4, I 0), (7, I (len ea)), (8, I s.2.2.1)] | some j => [(0, R ea .sh), (1, I n), (4, I 0), (5, I j), (7, I (len ea)), (8, I s.2.2.1)]) (fun s => At s.2.2.1 s.2.1.length ∧ l = s.2.1 ++ s.1 ∧ ixOf (fun y => decide (y = n)) s.1 s.2.2.1 = T) (fun s => s.1.length) (l, [], 0, none) rfl ⟨rfl, rfl, hT.symm⟩ ?_
  intro c1 Q1 hc1 hQ1
  rintro ⟨suf, pre, i, j⟩ ⟨hi, hl', hb⟩ ih
  simp only at hi hl' hb ih
  have hpre : pre.length ≤ 1099511627776 := by rw [hl'] at hl; simp at hl; omega
  cases j with
  | none =>
    cbv
    cases suf with
    | nil =>
      rw [F.lt_f hi la (by simp [hl'])]; cbv
      rw [hQ1]; cbv
      rw [hQ]; cbv
      rw [← hr, ← hb]; rfl
    | cons x suf =>
      obtain ⟨v, hv⟩ : ∃ y_, y_ = decide (x = n) := ⟨_, rfl⟩
      have hb' : T = if v = true then i else ixOf (fun y => decide (y = n)) suf (i + 1) := by rw [← hb, hv]; rfl
      have hinc : add .i64 i 1 = i + 1 := by unfold At at hi; rw [F.add, hi, wrap64 (by omega) (by omega)]
      obtain ⟨ix, hix⟩ : ∃ y_, y_ = pre.length * 1 := ⟨_, rfl⟩
      rw [F.lt_t hi la (by simp [hl'])]; cbv
      rw [show at' 1 ea i = some (ix, [.int .i64 x]) by rw [hix]; exact F.get hi hea hl' (fun _ => rfl) (by decide)]; cbv
      rw [show eq n x = v by rw [F.eq, hv]; exact decide_eq_decide.2 eq_comm]; cbv
      refine both (fun d => ?_) (fun d => ?_) <;> rw [d] <;> cbv
      · rw [hQ1]; cbv
        rw [hQ]; cbv
        rw [← hr, hb', if_pos d]
      · refine ih (suf, pre ++ [x], add .i64 i 1, some i) ⟨at_len (F.inc hi (by omega)) (by simp), by simp [hl'], ?_⟩ (by simp)
        rw [hb', if_neg (by rw [d]; decide), hinc]
  | some jj =>
    cbv
    cases suf with
    | nil =>
      rw [F.lt_f hi la (by simp [hl'])]; cbv
      rw [hQ1]; cbv
      rw [hQ]; cbv
      rw [← hr, ← hb]; rfl
    | cons x suf =>
      obtain ⟨v, hv⟩ : ∃ y_, y_ = decide (x = n) := ⟨_, rfl⟩
      have hb' : T = if v = true then i else ixOf (fun y => decide (y = n)) suf (i + 1) := by rw [← hb, hv]; rfl
      have hinc : add .i64 i 1 = i + 1 := by unfold At at hi; rw [F.add, hi, wrap64 (by omega) (by omega)]
      obtain ⟨ix, hix⟩ : ∃ y_, y_ = pre.length * 1 := ⟨_, rfl⟩
      rw [F.lt_t hi la (by simp [hl'])]; cbv
      rw [show at' 1 ea i = some (ix, [.int .i64 x]) by rw [hix]; exact F.get hi hea hl' (fun _ => rfl) (by decide)]; cbv
      rw [show eq n x = v by rw [F.eq, hv]; exact decide_eq_decide.2 eq_comm]; cbv
      refine both (fun d => ?_) (fun d => ?_) <;> rw [d] <;> cbv
      · rw [hQ1]; cbv
        rw [hQ]; cbv
        rw [← hr, hb', if_pos d]
      · refine ih (suf, pre ++ [x], add .i64 i 1, some i) ⟨at_len (F.inc hi (by omega)) (by simp), by simp [hl'], ?_⟩ (by simp)
        rw [hb', if_neg (by rw [d]; decide), hinc]

/- slices.Contains[[]int,int] -/
theorem ok302 (l : List Int) (n : Int) (hl : l.length ≤ 1099511627776) {f0 : Fl} (h0 : inFl f0 = true) : fix Tb md 302 [R (row fI l) f0, I n] = some ⟨[B (hasI l n)], [], none⟩ := by
  rw [← hasI_ix]
  obtain ⟨v, hv⟩ : ∃ y_, y_ = ixOf (fun y => decide (y = n)) l 0 := ⟨_, rfl⟩
  rw [← hv]
  generalize hr : (⟨_, [], none⟩ : Ret) = r
  obtain ⟨ea, hea⟩ : ∃ y_, y_ = row fI l := ⟨_, rfl⟩
  rw [← hea]
  refine fix_fn2 (fn := ir302) tb_302 rfl rfl (by decide) rfl ?_; intro Q hQ; simp only [shutArgs, shutS, List.map_cons, List.map_nil, ir302, shut_in h0, List.head?_nil, reduceCtorEq, if_false, sExt, sHello, sAnswer, sEdit, sDeal, sBox, sDialed, sKnown]
  intro add sub mul arith eq ne lt le gt ge neg conv mn mx not beq len at' ln bd cut app allS isNil mks set o hP F ho
  have c1 : o 354 [R ea (.sp 0 0), I n] = some ⟨[I v], [], none⟩ := by rw [ho, hv, hea]; exact ok354 _ _ hl rfl
  cbv
  rw [c1]; cbv
  rw [hQ]; cbv
  rw [← hr, F.ge]

/- impl.loses$1 -/
theorem ok359 (x : Ext) (b : Box) (hd : b.drops.length ≤ 1099511627776) (hs : b.strips.length ≤ 1099511627776) {f0 : Fl} (h0 : inFl f0 = true) : fix Tb md 359 [sExt x.tag (row fI x.body) f0, ⟨.val, [⟨.ptr () [.int .i64 b.limit, .row () (row fI b.drops), .row () (row fI b.strips), .bool b.lists], .sh⟩]⟩] = some ⟨[B (lost b x)], [], none⟩ := by
  obtain ⟨d, hd_⟩ : ∃ y_, y_ = hasI b.drops x.tag := ⟨_, rfl⟩
  obtain ⟨s, hs_⟩ : ∃ y_, y_ = hasI b.strips x.tag := ⟨_, rfl⟩
  obtain ⟨q, hq⟩ : ∃ y_, y_ = inR x.tag 1 3 := ⟨_, rfl⟩
  obtain ⟨lb, hlb⟩ : ∃ y_, y_ = b.lists := ⟨_, rfl⟩
  rw [show lost b x = (d || (lb && !s && !q)) by rw [hd_, hs_, hq, hlb]; rfl, ← hlb]
  generalize hr : (⟨_, [], none⟩ : Ret) = r
  obtain ⟨ex, hex⟩ : ∃ y_, y_ = row fI x.body := ⟨_, rfl⟩
  obtain ⟨ed, hed⟩ : ∃ y_, y_ = row fI b.drops := ⟨_, rfl⟩
  obtain ⟨es, hes⟩ : ∃ y_, y_ = row fI b.strips := ⟨_, rfl⟩
  rw [← hex, ← hed, ← hes]
  refine fix_fn2 (fn := ir359) tb_359 rfl rfl (by decide) rfl ?_; intro Q hQ; simp only [shutArgs, shutS, List.map_cons, List.map_nil, ir359, shut_in h0, List.head?_nil, reduceCtorEq, if_false, sExt, sHello, sAnswer, sEdit, sDeal, sBox, sDialed, sKnown]
  intro add sub mul arith eq ne lt le gt ge neg conv mn mx not beq len at' ln bd cut app allS isNil mks set o hP F ho
  have c1 : o 302 [R ed (.sp 0 0), I x.tag] = some ⟨[B d], [], none⟩ := by rw [ho, hd_, hed]; exact ok302 _ _ hd rfl
  have c2 : o 302 [R es (.sp 0 0), I x.tag] = some ⟨[B s], [], none⟩ := by rw [ho, hs_, hes]; exact ok302 _ _ hs rfl
  have c3 : o 232 [I x.tag, I 1, I 3] = some ⟨[B q], [], none⟩ := by rw [ho, hq]; exact ok232 ..
  have nb : ∀ b, not b = !b := F.not
  cbv
  rw [c1]; cbv
  refine both (fun e1 => ?_) (fun e1 => ?_) <;> rw [e1] <;> cbv
  · rw [hQ]; cbv
    rw [← hr, e1]; rfl
  refine both (fun e2 => ?_) (fun e2 => ?_) <;> rw [e2] <;> cbv
  · rw [c2]; cbv
    refine both (fun e3 => ?_) (fun e3 => ?_) <;> rw [e3] <;> cbv
    · rw [c3]; cbv
      rw [hQ]; cbv
      rw [← hr, nb q, e1, e2, F.not_t e3]; rfl
    · rw [hQ]; cbv
      rw [← hr, e1, e2, F.not_f e3]; rfl
  · rw [hQ]; cbv
    rw [← hr, e1, e2]; rfl

/- impl.loses -/
theorem ok310 (b : Box) (h : Hello) (hb : 0 ≤ b.limit) (hh : areVer h.versions = true) (hd : b.drops.length ≤ 1099511627776) (hs : b.strips.length ≤ 1099511627776) (hv : h.versions.length ≤ 1099511627776) (hx : h.exts.length ≤ 1099511627776) {f0 f1 f2 f3 : Fl} (q0 : inFl f0 = true) (q1 : inFl f1 = true) (q2 : inFl f2 = true) (q3 : inFl f3 = true) : fix Tb md 310 [sBox b.limit (row fI b.drops) (row fI b.strips) b.lists f0 f1, sHello (row fI h.versions) (row fExt h.exts) f2 f3] = some ⟨[B (overL b h || h.exts.any (lost b))], [], none⟩ := by
  obtain ⟨T, hT⟩ : ∃ y_, y_ = h.exts.any (lost b) := ⟨_, rfl⟩
  obtain ⟨w, hw⟩ : ∃ y_, y_ = lastI h.versions := ⟨_, rfl⟩
  obtain ⟨t1, ht1⟩ : ∃ y_, y_ = decide (0 < b.limit) := ⟨_, rfl⟩
  obtain ⟨t2, ht2⟩ : ∃ y_, y_ = decide (b.limit < w) := ⟨_, rfl⟩
  rw [show (overL b h || h.exts.any (lost b)) = (t1 && t2 || T) by rw [ht1, ht2, hw, hT]; rfl]
  generalize hr : (⟨_, [], none⟩ : Ret) = r
  obtain ⟨ed, hed⟩ : ∃ y_, y_ = row fI b.drops := ⟨_, rfl⟩
  obtain ⟨es, hes⟩ : ∃ y_, y_ = row fI b.strips := ⟨_, rfl⟩
  obtain ⟨ev, hev⟩ : ∃ y_, y_ = row fI h.versions := ⟨_, rfl⟩
  obtain ⟨ex, hex⟩ : ∃ y_, y_ = row fExt h.exts := ⟨_, rfl⟩
  have k1 : fix Tb md 358 [R ev (.sp 0 0)] = some ⟨[I w], [], none⟩ := by
    rw [hev, hw]
    cases hvs : h.versions with
    | nil => rw [hvs] at hh; exact absurd hh (by decide)
    | cons x xs => rw [hvs] at hh hv; rw [← max_hel hh]; exact ok358 x xs hv rfl
  rw [← hed, ← hes, ← hev, ← hex]
  refine fix_fn2 (fn := ir310) tb_310 rfl rfl (by decide) rfl ?_; intro Q hQ; simp only [shutArgs, shutS, List.map_cons, List.map_nil, ir310, shut_in q0, shut_in q1, shut_in q2, shut_in q3, List.head?_nil, reduceCtorEq, if_false, sExt, sHello, sAnswer, sEdit, sDeal, sBox, sDialed, sKnown]
  intro add sub mul arith eq ne lt le gt ge neg conv mn mx not beq len at' ln bd cut app allS isNil mks set o hP F ho
  have c1 : o 358 [R ev (.sp 0 0)] = some ⟨[I w], [], none⟩ := by rw [ho]; exact k1
  have c2 : o 288 [R ex (.sp 0 0), ⟨.val, [⟨.fn 359 [.ptr () [.int .i64 b.limit, .row () ed, .row () es, .bool b.lists]], .sh⟩]⟩] = some ⟨[B T], [], none⟩ := by
    rw [ho, hT, hex, hed, hes]; exact ok288_1 359 rfl _ (lost b) h.exts hx (fun y _ => ok359 y b hd hs rfl) rfl
  have g1 : ne b.limit 0 = t1 := by
    rw [F.ne, ht1]; by_cases hz : b.limit = 0
    · simp [hz]
    · simp [hz]; omega
  have g2 : gt w b.limit = t2 := by rw [F.gt, ht2]
  cbv
  rw [g1]; cbv
  refine both (fun d1 => ?_) (fun d1 => ?_) <;> rw [d1] <;> cbv
  · rw [c1]; cbv
    rw [g2]; cbv
    refine both (fun d2 => ?_) (fun d2 => ?_) <;> rw [d2] <;> cbv
    · rw [hQ]; cbv
      rw [← hr, d1, d2]; rfl
    · rw [c2]; cbv
      rw [hQ]; cbv
      rw [← hr, d1, d2]; rfl
  · rw [c2]; cbv
    rw [hQ]; cbv
    rw [← hr, d1]; rfl

/- impl.PassBox$1 -/
theorem ok311 (n : Int) (b : Box) (hs : b.strips.length ≤ 1099511627776) : fix Tb md 311 [I n, ⟨.val, [⟨.ptr () [.int .i64 b.limit, .row () (row fI b.drops), .row () (row fI b.strips), .bool b.lists], .sh⟩]⟩] = some ⟨[B (!hasI b.strips n)], [], none⟩ := by
  obtain ⟨v, hv⟩ : ∃ y_, y_ = hasI b.strips n := ⟨_, rfl⟩
  rw [← hv]
  generalize hr : (⟨_, [], none⟩ : Ret) = r
  obtain ⟨ed, hed⟩ : ∃ y_, y_ = row fI b.drops := ⟨_, rfl⟩
  obtain ⟨es, hes⟩ : ∃ y_, y_ = row fI b.strips := ⟨_, rfl⟩
  rw [← hed, ← hes]
  refine fix_fn2 (fn := ir311) tb_311 rfl rfl (by decide) rfl ?_; intro Q hQ; simp only [shutArgs, shutS, List.map_cons, List.map_nil, ir311, List.head?_nil, reduceCtorEq, if_false, sExt, sHello, sAnswer, sEdit, sDeal, sBox, sDialed, sKnown]
  intro add sub mul arith eq ne lt le gt ge neg conv mn mx not beq len at' ln bd cut app allS isNil mks set o hP F ho
  have c1 : o 302 [R es (.sp 0 0), I n] = some ⟨[B v], [], none⟩ := by rw [ho, hv, hes]; exact ok302 _ _ hs rfl
  cbv
  rw [c1]; cbv
  rw [hQ]; cbv
  rw [← hr, F.not]

/- impl.IsBox -/
theorem ok69 (limit : Int) (drops strips : List Int) (lists : Bool) (hd : drops.length ≤ 1099511627776) (hs : strips.length ≤ 1099511627776) {f0 f1 : Fl} (h0 : inFl f0 = true) (h1 : inFl f1 = true) :
    fix Tb md 69 [sBox limit (row fI drops) (row fI strips) lists f0 f1] = some ⟨[B (isBox limit drops strips)], [], none⟩ := by
  refine fix_fn (fn := ir69) tb_69 rfl rfl (by decide) rfl ?_; simp only [shutArgs, shutS, List.map_cons, List.map_nil, ir69, shut_in h0, shut_in h1, List.head?_nil, reduceCtorEq, if_false, sExt, sHello, sAnswer, sEdit, sDeal, sBox, sDialed, sKnown]
  generalize hr : (⟨_, [], none⟩ : Ret) = r
  obtain ⟨ed, hed⟩ : ∃ y_, y_ = row fI drops := ⟨_, rfl⟩
  obtain ⟨es, hes⟩ : ∃ y_, y_ = row fI strips := ⟨_, rfl⟩
  rw [← hed, ← hes]
  obtain ⟨v1, hv1⟩ : ∃ y_, y_ = inR limit 0 9 := ⟨_, rfl⟩
  obtain ⟨v2, hv2⟩ : ∃ y_, y_ = bytes drops := ⟨_, rfl⟩
  obtain ⟨v3, hv3⟩ : ∃ y_, y_ = bytes strips := ⟨_, rfl⟩
  intro add sub mul arith eq ne lt le gt ge neg conv mn mx not beq len at' ln bd cut app allS isNil mks set o hP F ho
  have ld := F.len_at hed
  have ls := F.len_at hes
  have c1 : o 232 [I limit, I 0, I 9] = some ⟨[B v1], [], none⟩ := by rw [ho, hv1]; exact ok232 ..
  have c2 : o 233 [R ed (.sp 0 0), I 0, I 255] = some ⟨[B v2], [], none⟩ := by rw [ho, hv2, hed]; exact ok233 _ _ _ hd rfl
  have c3 : o 233 [R es (.sp 0 0), I 0, I 255] = some ⟨[B v3], [], none⟩ := by rw [ho, hv3, hes]; exact ok233 _ _ _ hs rfl
  cbv
  repeat' (first | (rw [c1]; cbv) | (rw [c2]; cbv) | (rw [c3]; cbv) | (refine both (fun c => ?_) (fun c => ?_) <;> (try rw [c]) <;> (try cbv)))
  all_goals (clear hP c1 c2 c3 ho; unfold At at ld ls; try simp only [F.eq, F.ne, F.le, F.lt, F.ge, F.gt, F.not, F.beq, ld, ls] at *; clear F; subst hr)
  all_goals (simp_all [isBox] <;> (intros; omega))

/- impl.PassBox -/
theorem ok174r (b : Box) (h : Hello) (bd1 : b.drops.length ≤ 1073741824) (bs1 : b.strips.length ≤ 1073741824) (mh : h.Mid) {f0 f1 f2 f3 : Fl} (q0 : inFl f0 = true) (q1 : inFl f1 = true) (q2 : inFl f2 = true) (q3 : inFl f3 = true) (r : Ret) (rA : pbOk b h = true → (⟨[sHello (row fI h.versions) (row fExt (sel (stripE b.strips) idE h.exts)) (.ow false) (.ow false), B true], [], none⟩ : Ret) = r) (rC : pbOk b h = false → (⟨[sHello [] [] .nl .nl, B false], [], none⟩ : Ret) = r) : fix Tb md 174 [sBox b.limit (row fI b.drops) (row fI b.strips) b.lists f0 f1, sHello (row fI h.versions) (row fExt h.exts) f2 f3] = some r := by
  have mh' := mh
  unfold Hello.Mid at mh'
  have wh : ∀ y ∈ h.exts, y.body.length ≤ 1099511627776 := fun y hy => Nat.le_trans (show y.body.length ≤ 1073741824 from mh'.2.2 y hy) (by decide)
  obtain ⟨u1, hu1⟩ : ∃ y_, y_ = isBox b.limit b.drops b.strips := ⟨_, rfl⟩
  obtain ⟨u2, hu2⟩ : ∃ y_, y_ = isHel h := ⟨_, rfl⟩
  obtain ⟨u3, hu3⟩ : ∃ y_, y_ = (overL b h || h.exts.any (lost b)) := ⟨_, rfl⟩
  have hp : pbOk b h = (u1 && u2 && !u3) := by rw [hu1, hu2, hu3, pbOk]; simp [Bool.and_assoc]
  rw [hp] at rA rC
  have k3 : u1 = true → u2 = true → fix Tb md 310 [sBox b.limit (row fI b.drops) (row fI b.strips) b.lists (.sp 0 1) (.sp 0 2), sHello (row fI h.versions) (row fExt h.exts) (.sp 1 0) (.sp 1 1)] = some ⟨[B u3], [], none⟩ := fun e1 e2 => by
    rw [hu3]
    rw [hu1] at e1; rw [hu2] at e2
    refine ok310 b h ?_ ?_ (by omega) (by omega) (by omega) (by omega) rfl rfl rfl rfl
    · unfold isBox at e1; simp only [Bool.and_eq_true] at e1
      have := e1.1.1.1.1; unfold inR at this; simp at this; exact this.1
    · unfold isHel at e2; simp only [Bool.and_eq_true] at e2; exact e2.1
  obtain ⟨ed, hed⟩ : ∃ y_, y_ = row fI b.drops := ⟨_, rfl⟩
  obtain ⟨es, hes⟩ : ∃ y_, y_ = row fI b.strips := ⟨_, rfl⟩
  obtain ⟨ev, hev⟩ : ∃ y_, y_ = row fI h.versions := ⟨_, rfl⟩
  obtain ⟨ex, hex⟩ : ∃ y_, y_ = row fExt h.exts := ⟨_, rfl⟩
  obtain ⟨ez, hez⟩ : ∃ y_, y_ = row fExt (sel (stripE b.strips) idE h.exts) := ⟨_, rfl⟩
  rw [← hev, ← hez] at rA
  rw [← hed, ← hes, ← hev, ← hex] at k3 ⊢
  refine fix_fn2 (fn := ir174) tb_174 rfl rfl (by decide) rfl ?_; intro Q hQ; simp only [shutArgs, shutS, List.map_cons, List.map_nil, ir174, shut_in q0, shut_in q1, shut_in q2, shut_in q3, List.head?_nil, reduceCtorEq, if_false, sExt, sHello, sAnswer, sEdit, sDeal, sBox, sDialed, sKnown]
  intro add sub mul arith eq ne lt le gt ge neg conv mn mx not beq len at' ln bd cut app allS isNil mks set o hP F ho
  have c1 : o 69 [sBox b.limit ed es b.lists (.sp 0 1) (.sp 0 2)] = some ⟨[B u1], [], none⟩ := by rw [ho, hu1, hed, hes]; exact ok69 _ _ _ _ (by omega) (by omega) rfl rfl
  have c2 : o 113 [sHello ev ex (.sp 0 0) (.sp 0 1)] = some ⟨[B u2], [], none⟩ := by rw [ho, hu2, hev, hex]; exact ok113 _ (by omega) (by omega) wh rfl rfl
  have c3 : u1 = true → u2 = true → o 310 [sBox b.limit ed es b.lists (.sp 0 1) (.sp 0 2), sHello ev ex (.sp 1 0) (.sp 1 1)] = some ⟨[B u3], [], none⟩ := by rw [ho]; exact k3
  have c4 : o 299 [R ev (.sp 0 0)] = some ⟨[R ev (.ow false)], [], none⟩ := by rw [ho, hev]; exact ok299 _ (by omega) rfl
  have c5 : o 264 [R ex (.sp 0 0), ⟨.val, [⟨.fn 311 [.ptr () [.int .i64 b.limit, .row () ed, .row () es, .bool b.lists]], .sh⟩]⟩] = some ⟨[R ez (.ow false)], [], none⟩ := by
    rw [ho, hez, hex, hed, hes]
    exact ok264_1 311 rfl _ (fun n => !hasI b.strips n) h.exts mh'.2.1 wh (fun x _ => ok311 x.tag b (by omega)) rfl
  cbv
  rw [c1]; cbv
  refine both (fun d1 => ?_) (fun d1 => ?_) <;> rw [d1] <;> cbv
  · rw [hQ]; cbv
    exact congrArg some (rC (by rw [F.not_t d1]; rfl))
  rw [c2]; cbv
  refine both (fun d2 => ?_) (fun d2 => ?_) <;> rw [d2] <;> cbv
  · rw [hQ]; cbv
    exact congrArg some (rC (by rw [F.not_f d1, F.not_t d2]; rfl))
  have c3' := c3 (F.not_f d1) (F.not_f d2)
  rw [c3']; cbv
  refine both (fun d3 => ?_) (fun d3 => ?_) <;> rw [d3] <;> cbv
  · rw [hQ]; cbv
    exact congrArg some (rC (by rw [F.not_f d1, F.not_f d2, d3]; rfl))
  rw [c4]; cbv
  rw [c5]; cbv
  rw [hQ]; cbv
  exact congrArg some (rA (by rw [F.not_f d1, F.not_f d2, d3]; rfl))
theorem ok174 (b : Box) (h : Hello) (bd1 : b.drops.length ≤ 1073741824) (bs1 : b.strips.length ≤ 1073741824) (mh : h.Mid) {f0 f1 f2 f3 : Fl} (q0 : inFl f0 = true) (q1 : inFl f1 = true) (q2 : inFl f2 = true) (q3 : inFl f3 = true) :
    fix Tb md 174 [sBox b.limit (row fI b.drops) (row fI b.strips) b.lists f0 f1, sHello (row fI h.versions) (row fExt h.exts) f2 f3] = some ⟨[sHello (row fI (pbV b h).versions) (row fExt (pbV b h).exts) (.ow false) (.ow false), B (pbOk b h)], [], none⟩ ∨
    ((pbV b h).versions = [] ∧ (pbV b h).exts = [] ∧ fix Tb md 174 [sBox b.limit (row fI b.drops) (row fI b.strips) b.lists f0 f1, sHello (row fI h.versions) (row fExt h.exts) f2 f3] = some ⟨[sHello [] [] .nl .nl, B (pbOk b h)], [], none⟩) := by
  have hmain := fun r a c => ok174r b h bd1 bs1 mh q0 q1 q2 q3 r a c
  unfold pbV
  cases ho : pbOk b h with
  | false => exact .inr ⟨rfl, rfl, hmain _ (fun q => by rw [ho] at q; cases q) (fun _ => rfl)⟩
  | true => exact .inl (hmain _ (fun _ => rfl) (fun q => by rw [ho] at q; cases q))

/- impl.copyExts$1 -/
theorem ok347 (n : Int) : fix Tb md 347 [I n] = some ⟨[B true], [], none⟩ := by
  generalize hr : (⟨_, [], none⟩ : Ret) = r
  refine fix_fn2 (fn := ir347) tb_347 rfl rfl (by decide) rfl ?_; intro Q hQ; simp only [shutArgs, shutS, List.map_cons, List.map_nil, ir347, List.head?_nil, reduceCtorEq, if_false, sExt, sHello, sAnswer, sEdit, sDeal, sBox, sDialed, sKnown]
  intro add sub mul arith eq ne lt le gt ge neg conv mn mx not beq len at' ln bd cut app allS isNil mks set o hP F ho
  cbv
  rw [hQ]; cbv
  exact congrArg some hr

/- impl.copyExts -/
theorem ok266 (l : List Ext) (hl : l.length ≤ 1073741824) (w : ∀ y ∈ l, y.body.length ≤ 1099511627776) {f0 : Fl} (h0 : inFl f0 = true) : fix Tb md 266 [R (row fExt l) f0] = some ⟨[R (row fExt l) (.ow false)], [], none⟩ := by
  obtain ⟨ea, hea⟩ : ∃ y_, y_ = row fExt l := ⟨_, rfl⟩
  rw [← hea]
  generalize hr : (⟨_, [], none⟩ : Ret) = r
  refine fix_fn2 (fn := ir266) tb_266 rfl rfl (by decide) rfl ?_; intro Q hQ; simp only [shutArgs, shutS, List.map_cons, List.map_nil, ir266, shut_in h0, List.head?_nil, reduceCtorEq, if_false, sExt, sHello, sAnswer, sEdit, sDeal, sBox, sDialed, sKnown]
  intro add sub mul arith eq ne lt le gt ge neg conv mn mx not beq len at' ln bd cut app allS isNil mks set o hP F ho
  have c1 : o 264 [R ea (.sp 0 0), ⟨.val, [⟨.fn 347 [], .sh⟩]⟩] = some ⟨[R ea (.ow false)], [], none⟩ := by
    rw [ho, hea]
    have h := ok264_0 347 rfl (fun _ => true) l hl w (fun x _ => ok347 x.tag) (f0 := .sp 0 0) rfl
    rw [show sel (onTag fun _ => true) idE l = l by rw [sel_idE]; exact List.filter_eq_self.2 (fun _ _ => rfl)] at h
    exact h
  cbv
  rw [c1]; cbv
  rw [hQ]; cbv
  exact congrArg some hr

/- impl.copyHello -/
theorem ok261 (h : Hello) (mh : h.Mid) {f0 f1 : Fl} (q0 : inFl f0 = true) (q1 : inFl f1 = true) : fix Tb md 261 [sHello (row fI h.versions) (row fExt h.exts) f0 f1] = some ⟨[sHello (row fI h.versions) (row fExt h.exts) (.ow false) (.ow false)], [], none⟩ := by
  have mh' := mh
  unfold Hello.Mid at mh'
  obtain ⟨ev, hev⟩ : ∃ y_, y_ = row fI h.versions := ⟨_, rfl⟩
  obtain ⟨ex, hex⟩ : ∃ y_, y_ = row fExt h.exts := ⟨_, rfl⟩
  rw [← hev, ← hex]
  generalize hr : (⟨_, [], none⟩ : Ret) = r
  refine fix_fn2 (fn := ir261) tb_261 rfl rfl (by decide) rfl ?_; intro Q hQ; simp only [shutArgs, shutS, List.map_cons, List.map_nil, ir261, shut_in q0, shut_in q1, List.head?_nil, reduceCtorEq, if_false, sExt, sHello, sAnswer, sEdit, sDeal, sBox, sDialed, sKnown]
  intro add sub mul arith eq ne lt le gt ge neg conv mn mx not beq len at' ln bd cut app allS isNil mks set o hP F ho
  have c1 : o 266 [R ex (.sp 0 0)] = some ⟨[R ex (.ow false)], [], none⟩ := by rw [ho, hex]; exact ok266 _ mh'.2.1 (fun y hy => Nat.le_trans (show y.body.length ≤ 1073741824 from mh'.2.2 y hy) (by decide)) rfl
  cbv
  rw [show allS ev = true from F.scal hev (fun _ => rfl)]; cbv
  rw [F.app_nil hev (fun _ => rfl) (Nat.le_trans mh'.1 (by decide))]; cbv
  rw [c1]; cbv
  rw [hQ]; cbv
  exact congrArg some hr

def ppGo : List Box → Hello → Hello × Bool
  | [], h => (h, true)
  | b :: bs, h => if pbOk b h then ppGo bs (pbV b h) else (⟨[], []⟩, false)
def pp (path : List Box) (h : Hello) : Hello × Bool := if isHel h && decide (path.length ≤ 4) then ppGo path h else (⟨[], []⟩, false)
def ppV (path : List Box) (h : Hello) : Hello := (pp path h).1
def ppOk (path : List Box) (h : Hello) : Bool := (pp path h).2
theorem ppGo_mid : ∀ (path : List Box) {h : Hello}, h.Mid → (ppGo path h).1.Mid
  | [], _, m => m
  | b :: bs, h, m => by
    unfold ppGo
    split
    · exact ppGo_mid bs (pbV_mid m)
    · exact ⟨by simp, by simp, by simp⟩
theorem ppV_mid {path : List Box} {h : Hello} (m : h.Mid) : (ppV path h).Mid := by
  unfold ppV pp
  split
  · exact ppGo_mid path m
  · exact ⟨by simp, by simp, by simp⟩
theorem ppGo_cases : ∀ (path : List Box) (h : Hello), (ppGo path h).2 = true ∨ ppGo path h = (⟨[], []⟩, false)
  | [], _ => .inl rfl
  | b :: bs, h => by
    unfold ppGo
    split
    · exact ppGo_cases bs _
    · exact .inr rfl
theorem pp_cases (path : List Box) (h : Hello) : (pp path h).2 = true ∨ pp path h = (⟨[], []⟩, false) := by
  unfold pp
  split
  · exact ppGo_cases _ _
  · exact .inr rfl

/- impl.PassPath -/
theorem ok182r (path : List Box) (h : Hello) (pl : path.length ≤ 1073741824) (pm : ∀ y ∈ path, y.Mid) (mh : h.Mid) {f0 f1 f2 : Fl} (q0 : inFl f0 = true) (q1 : inFl f1 = true) (q2 : inFl f2 = true) (r : Ret) (rA : ∀ z, pp path h = (z, true) → (⟨[sHello (row fI z.versions) (row fExt z.exts) (.ow false) (.ow false), B true], [], none⟩ : Ret) = r) (rC : pp path h = (⟨[], []⟩, false) → (⟨[sHello [] [] .nl .nl, B false], [], none⟩ : Ret) = r) :
    fix Tb md 182 [R (row fBox path) f0, sHello (row fI h.versions) (row fExt h.exts) f1 f2] = some r := by
  have mh' := mh
  unfold Hello.Mid at mh'
  have wh : ∀ y ∈ h.exts, y.body.length ≤ 1099511627776 := fun y hy => Nat.le_trans (show y.body.length ≤ 1073741824 from mh'.2.2 y hy) (by decide)
  obtain ⟨T, hT⟩ : ∃ y_, y_ = ppGo path h := ⟨_, rfl⟩
  obtain ⟨u, hu⟩ : ∃ y_, y_ = isHel h := ⟨_, rfl⟩
  obtain ⟨k4, hk4⟩ : ∃ y_, y_ = decide (path.length ≤ 4) := ⟨_, rfl⟩
  have hp : pp path h = if (u && k4) = true then T else (⟨[], []⟩, false) := by rw [hu, hk4, hT]; rfl
  rw [hp] at rA rC
  clear hp
  obtain ⟨ep, hep⟩ : ∃ y_, y_ = row fBox path := ⟨_, rfl⟩
  obtain ⟨dv, hdv⟩ : ∃ y_, y_ = row fI h.versions := ⟨_, rfl⟩
  obtain ⟨dx, hdx⟩ : ∃ y_, y_ = row fExt h.exts := ⟨_, rfl⟩
  rw [← hep, ← hdv, ← hdx]
  refine fix_fn2 (fn := ir182) tb_182 rfl rfl (by decide) rfl ?_; intro Q hQ; simp only [shutArgs, shutS, List.map_cons, List.map_nil, ir182, shut_in q0, shut_in q1, shut_in q2, List.head?_nil, reduceCtorEq, if_false, sExt, sHello, sAnswer, sEdit, sDeal, sBox, sDialed, sKnown]
  intro add sub mul arith eq ne lt le gt ge neg conv mn mx not beq len at' ln bd cut app allS isNil mks set o hP F ho
  have lp := F.len_at hep
  have c1 : o 113 [sHello dv dx (.sp 0 0) (.sp 0 1)] = some ⟨[B u], [], none⟩ := by rw [ho, hu, hdv, hdx]; exact ok113 _ (by omega) (by omega) wh rfl rfl
  have g1 : gt (len ep) 4 = not k4 := by rw [F.gt_n lp (k := 4) (m := 4) rfl, F.not, hk4, Bool.eq_iff_iff]; simp only [decide_eq_true_eq, Bool.not_eq_true', decide_eq_false_iff_not]; omega
  have c2 : o 261 [sHello dv dx (.sp 0 0) (.sp 0 1)] = some ⟨[sHello dv dx (.ow false) (.ow false)], [], none⟩ := by rw [ho, hdv, hdx]; exact ok261 h mh rfl rfl
  cbv
  rw [c1]; cbv
  refine both (fun d1 => ?_) (fun d1 => ?_) <;> rw [d1] <;> cbv
  · rw [hQ]; cbv
    exact congrArg some (rC (by rw [F.not_t d1]; rfl))
  rw [g1]; cbv
  refine both (fun d2 => ?_) (fun d2 => ?_) <;> rw [d2] <;> cbv
  · rw [hQ]; cbv
    exact congrArg some (rC (by rw [F.not_t d2, Bool.and_false]; rfl))
  rw [F.not_f d1, F.not_f d2, Bool.true_and, if_pos rfl] at rA rC
  rw [c2]; cbv
  refine loop_ind2 hP (σ := List Box × List Box × Int × Option (Hello × List (List V) × List (List V))) (fun s => match s.2.2.2 with
      | none => [(0, R ep .sh), (1, sHello dv dx .sh .sh), (3, ⟨.ptr 43 0, []⟩), (4, ⟨.ptr 44 0, []⟩), (5, B false), (6, ⟨.ptr 46 0, []⟩), (7, B false), (8, I s.2.2.1), (43, ⟨.box (), [⟨.row () dv, .sh⟩, ⟨.row () dx, .sh⟩]⟩), (44, ⟨.box (), [⟨.row () [], .nl⟩, ⟨.row () [], .nl⟩]⟩), (46, ⟨.box (), [⟨.row () [], .nl⟩, ⟨.row () [], .nl⟩]⟩)]
      | some j => [(0, R ep .sh), (1, sHello dv dx .sh .sh), (3, ⟨.ptr 43 0, []⟩), (4, ⟨.ptr 44 0, []⟩), (5, B false), (6, ⟨.ptr 46 0, []⟩), (7, B true), (8, I s.2.2.1), (43, ⟨.box (), [⟨.row () dv, .sh⟩, ⟨.row () dx, .sh⟩]⟩), (44, ⟨.box (), [⟨.row () [], .nl⟩, ⟨.row () [], .nl⟩]⟩), (46, ⟨.box (), [⟨.row () j.2.1, .ow false⟩, ⟨.row () j.2.2, .ow false⟩]⟩)]) (fun s => At s.2.2.1 s.2.1.length ∧ path = s.2.1 ++ s.1 ∧ (match s.2.2.2 with | none => T = (⟨[], []⟩, false) | some j => ppGo s.1 j.1 = T ∧ j.1.Mid ∧ j.2.1 = row fI j.1.versions ∧ j.2.2 = row fExt j.1.exts)) (fun s => s.1.length) (path, [], 0, some (h, dv, dx)) rfl ⟨rfl, rfl, hT.symm, mh, hdv, hdx⟩ ?_
  intro c9 Q1 hc9 hQ1
  rintro ⟨suf, pre, i, e⟩ ⟨hi, hl', hz⟩ ih
  simp only at hi hl' hz ih
  cases e with
  | none =>
    cbv
    cases suf with
    | nil =>
      rw [F.lt_f hi lp (by simp [hl'])]; cbv
      rw [hQ1]; cbv
      rw [hQ]; cbv
      exact congrArg some (rC hz)
    | cons x suf =>
      rw [F.lt_t hi lp (by simp [hl'])]; cbv
      rw [hQ1]; cbv
      rw [hQ]; cbv
      exact congrArg some (rC hz)
  | some j =>
    obtain ⟨cur, ev, ex⟩ := j
    obtain ⟨z1, z2, z3, z4⟩ := hz
    simp only at z1 z2 z3 z4
    have z2' := z2
    unfold Hello.Mid at z2'
    cases suf with
    | nil =>
      cbv
      rw [F.lt_f hi lp (by simp [hl'])]; cbv
      rw [hQ1]; cbv
      rw [hQ]; cbv
      rw [z3, z4]
      exact congrArg some (rA cur (by rw [← z1]; rfl))
    | cons x suf =>
      obtain ⟨ix, hix⟩ : ∃ y_, y_ = pre.length * 4 := ⟨_, rfl⟩
      obtain ⟨e1, he1⟩ : ∃ y_, y_ = row fI x.drops := ⟨_, rfl⟩
      obtain ⟨e2, he2⟩ : ∃ y_, y_ = row fI x.strips := ⟨_, rfl⟩
      have hx := pm x (by rw [hl']; simp)
      unfold Box.Mid at hx
      have hi' : At (add .i64 i 1) (pre ++ [x]).length := at_len (F.inc hi (by rw [hl'] at pl; simp at pl; omega)) (by simp)
      have hl2 : path = (pre ++ [x]) ++ suf := by rw [hl']; simp
      have p0 : at' 4 ep i = some (ix, [.int .i64 x.limit, .row () e1, .row () e2, .bool x.lists]) := by rw [hix, he1, he2]; exact F.get hi hep hl' (fun _ => rfl) (by decide)
      cases hok : pbOk x cur with
      | true =>
        obtain ⟨nx, hnx⟩ : ∃ y_, y_ = row fExt (sel (stripE x.strips) idE cur.exts) := ⟨_, rfl⟩
        have hV : pbV x cur = ⟨cur.versions, sel (stripE x.strips) idE cur.exts⟩ := by rw [pbV, hok]; rfl
        have c3 : o 174 [sBox x.limit e1 e2 x.lists (.sp 0 1) (.sp 0 2), sHello ev ex (.sp 1 0) (.sp 1 1)] = some ⟨[sHello ev nx (.ow false) (.ow false), B true], [], none⟩ := by
          rw [ho, he1, he2, z3, z4, hnx]
          exact ok174r x cur (by omega) (by omega) z2 rfl rfl rfl rfl _ (fun _ => rfl) (fun q => by rw [hok] at q; cases q)
        cbv
        rw [F.lt_t hi lp (by simp [hl'])]; cbv
        rw [p0]; cbv
        rw [c3]; cbv
        refine ih (suf, pre ++ [x], add .i64 i 1, some (pbV x cur, ev, nx)) ⟨hi', hl2, ?_, pbV_mid z2, ?_, ?_⟩ (by simp)
        · simp only; rw [← z1, ppGo, hok, if_pos rfl]
        · simp only; rw [hV, z3]
        · simp only; rw [hV, hnx]
      | false =>
        have c3 : o 174 [sBox x.limit e1 e2 x.lists (.sp 0 1) (.sp 0 2), sHello ev ex (.sp 1 0) (.sp 1 1)] = some ⟨[sHello [] [] .nl .nl, B false], [], none⟩ := by
          rw [ho, he1, he2, z3, z4]
          exact ok174r x cur (by omega) (by omega) z2 rfl rfl rfl rfl _ (fun q => by rw [hok] at q; cases q) (fun _ => rfl)
        cbv
        rw [F.lt_t hi lp (by simp [hl'])]; cbv
        rw [p0]; cbv
        rw [c3]; cbv
        refine ih (suf, pre ++ [x], add .i64 i 1, none) ⟨hi', hl2, ?_⟩ (by simp)
        simp only; rw [← z1, ppGo, hok]; rfl
theorem ok182 (path : List Box) (h : Hello) (pl : path.length ≤ 1073741824) (pm : ∀ y ∈ path, y.Mid) (mh : h.Mid) {f0 f1 f2 : Fl} (q0 : inFl f0 = true) (q1 : inFl f1 = true) (q2 : inFl f2 = true) :
    fix Tb md 182 [R (row fBox path) f0, sHello (row fI h.versions) (row fExt h.exts) f1 f2] = some ⟨[sHello (row fI (ppV path h).versions) (row fExt (ppV path h).exts) (.ow false) (.ow false), B (ppOk path h)], [], none⟩ ∨
    ((ppV path h).versions = [] ∧ (ppV path h).exts = [] ∧ fix Tb md 182 [R (row fBox path) f0, sHello (row fI h.versions) (row fExt h.exts) f1 f2] = some ⟨[sHello [] [] .nl .nl, B (ppOk path h)], [], none⟩) := by
  have hmain := fun r a c => ok182r path h pl pm mh q0 q1 q2 r a c
  unfold ppV ppOk
  rcases hq : pp path h with ⟨z, k⟩
  rcases pp_cases path h with h1 | h1
  · rw [hq] at h1
    simp only at h1
    subst h1
    exact .inl (hmain _ (fun z' q => by rw [hq] at q; cases q; rfl) (fun q => by rw [hq] at q; cases q))
  · rw [hq] at h1; cases h1
    exact .inr ⟨rfl, rfl, hmain _ (fun z' q => by rw [hq] at q; cases q) (fun _ => rfl)⟩

/- spec.PassBox -/
theorem share {P G C : Prop} (main : (P → G) → C) (proof : P → G) : C := main proof
theorem ok173r (b : Box) (h : Hello) (bd1 : b.drops.length ≤ 1073741824) (bs1 : b.strips.length ≤ 1073741824) (mh : h.Mid) {f0 f1 f2 f3 : Fl} (q0 : inFl f0 = true) (q1 : inFl f1 = true) (q2 : inFl f2 = true) (q3 : inFl f3 = true) (Z : List Ext) (hZ : Z = sel (stripE b.strips) idE h.exts) (r : Ret) (rA : pbOk b h = true → Z ≠ [] → (⟨[sHello (row fI h.versions) (row fExt Z) (.ow false) (.ow false), B true], [], none⟩ : Ret) = r) (rB : pbOk b h = true → Z = [] → (⟨[sHello (row fI h.versions) [] (.ow false) .nl, B true], [], none⟩ : Ret) = r) (rC : pbOk b h = false → (⟨[sHello [] [] .nl .nl, B false], [], none⟩ : Ret) = r) : fix Tb md 173 [sBox b.limit (row fI b.drops) (row fI b.strips) b.lists f0 f1, sHello (row fI h.versions) (row fExt h.exts) f2 f3] = some r := by
  have mh' := mh
  unfold Hello.Mid at mh'
  have hvl := mh'.1
  have hxl := mh'.2.1
  have wh : ∀ y ∈ h.exts, y.body.length ≤ 1099511627776 := fun y hy => Nat.le_trans (show y.body.length ≤ 1073741824 from mh'.2.2 y hy) (by decide)
  obtain ⟨u1, hu1⟩ : ∃ y_, y_ = isBox b.limit b.drops b.strips := ⟨_, rfl⟩
  obtain ⟨u2, hu2⟩ : ∃ y_, y_ = isHel h := ⟨_, rfl⟩
  obtain ⟨t1, ht1⟩ : ∃ y_, y_ = decide (0 < b.limit) := ⟨_, rfl⟩
  obtain ⟨w, hw⟩ : ∃ y_, y_ = lastI h.versions := ⟨_, rfl⟩
  obtain ⟨t2, ht2⟩ : ∃ y_, y_ = decide (b.limit < w) := ⟨_, rfl⟩
  have hp : pbOk b h = (u1 && u2 && !(t1 && t2) && !h.exts.any (lost b)) := by rw [hu1, hu2, ht1, ht2, hw]; rfl
  rw [hp] at rA rB rC
  clear hp
  obtain ⟨dv, hdv⟩ : ∃ y_, y_ = row fI h.versions := ⟨_, rfl⟩
  obtain ⟨dx, hdx⟩ : ∃ y_, y_ = row fExt h.exts := ⟨_, rfl⟩
  obtain ⟨ed, hed⟩ : ∃ y_, y_ = row fI b.drops := ⟨_, rfl⟩
  obtain ⟨es, hes⟩ : ∃ y_, y_ = row fI b.strips := ⟨_, rfl⟩
  rw [← hdv] at rA rB
  rw [← hdv, ← hdx, ← hed, ← hes]
  refine fix_fn2 (fn := ir173) tb_173 rfl rfl (by decide) rfl ?_; intro Q hQ; simp only [shutArgs, shutS, List.map_cons, List.map_nil, ir173, shut_in q0, shut_in q1, shut_in q2, shut_in q3, List.head?_nil, reduceCtorEq, if_false, sExt, sHello, sAnswer, sEdit, sDeal, sBox, sDialed, sKnown]
  intro add sub mul arith eq ne lt le gt ge neg conv mn mx not beq len at' ln bd cut app allS isNil mks set o hP F ho
  have lvn := F.len_at hdv
  have lxn := F.len_at hdx
  have c1 : o 68 [sBox b.limit ed es b.lists (.sp 0 1) (.sp 0 2)] = some ⟨[B u1], [], none⟩ := by rw [ho, hu1, hed, hes]; exact ok68 _ _ _ _ (by omega) (by omega) rfl rfl
  have c2 : o 142 [sHello dv dx (.sp 0 0) (.sp 0 1)] = some ⟨[B u2], [], none⟩ := by rw [ho, hu2, hdv, hdx]; exact ok142 _ (by omega) (by omega) wh rfl rfl
  have g1 : gt b.limit 0 = t1 := by rw [F.gt, ht1]
  have g2 : gt w b.limit = t2 := by rw [F.gt, ht2]
  obtain ⟨ix9, hix9⟩ : ∃ y_, y_ = (h.versions.length - 1) * 1 := ⟨_, rfl⟩
  have p9 : u2 = true → at' 1 dv (sub .i64 (len dv) 1) = some (ix9, [.int .i64 w]) := fun e => by
    rw [hu2] at e
    obtain ⟨p, y, h1, h2⟩ := isHel_ne e
    have hi : At (sub .i64 (len dv) 1) p.length := by unfold At at lvn ⊢; rw [h1] at lvn; simp at lvn; rw [F.sub, lvn, wrap64 (by omega) (by rw [h1] at hvl; simp at hvl; omega)]; omega
    rw [hix9, hw, h2, show h.versions.length - 1 = p.length by rw [h1]; simp]
    exact F.get hi hdv h1 (fun _ => rfl) (by decide)
  have va : allS dv = true := F.scal hdv (fun _ => rfl)
  have vn : app 1 [] dv = some dv := F.app_nil hdv (fun _ => rfl) (by omega)
  cbv
  rw [c1]; cbv
  refine both (fun d1 => ?_) (fun d1 => ?_) <;> rw [d1] <;> cbv
  · rw [hQ]; cbv
    exact congrArg some (rC (by rw [F.not_t d1]; rfl))
  rw [F.not_f d1, Bool.true_and] at rA rB rC
  rw [c2]; cbv
  refine both (fun d2 => ?_) (fun d2 => ?_) <;> rw [d2] <;> cbv
  · rw [hQ]; cbv
    exact congrArg some (rC (by rw [F.not_t d2]; rfl))
  rw [F.not_f d2, Bool.true_and] at rA rB rC
  have p9' := p9 (F.not_f d2)
  rw [g1]; cbv
  apply share (P := (t1 && t2) = false)
  case main =>
    intro key
    refine both (fun d3 => ?_) (fun d3 => ?_) <;> rw [d3] <;> cbv
    · rw [p9']; cbv
      rw [g2]; cbv
      refine both (fun d4 => ?_) (fun d4 => ?_) <;> rw [d4] <;> cbv
      · rw [hQ]; cbv
        exact congrArg some (rC (by rw [d3, d4]; rfl))
      exact key (by rw [d3, d4]; rfl)
    · exact key (by rw [d3]; rfl)
  case proof =>
    intro hov
    rw [hov, Bool.not_false, Bool.true_and] at rA rB rC
    rw [va]; cbv
    rw [vn]; cbv
    refine loop_ind2 hP (σ := List Ext × List Ext × Int × Option (List (List V)) × Option (Int × Bool)) (fun s => match s.2.2.2.1, s.2.2.2.2 with
        | none, none => [(0, sBox b.limit ed es b.lists .sh .sh), (1, sHello dv dx .sh .sh), (2, ⟨.ptr 97 0, []⟩), (3, ⟨.ptr 98 0, []⟩), (4, ⟨.ptr 99 0, []⟩), (5, B false), (6, ⟨.ptr 101 0, []⟩), (7, I s.2.2.1), (97, ⟨.box (), [⟨.int .i64 b.limit, .sc⟩, ⟨.row () ed, .sh⟩, ⟨.row () es, .sh⟩, ⟨.bool b.lists, .sc⟩]⟩), (98, ⟨.box (), [⟨.row () dv, .sh⟩, ⟨.row () dx, .sh⟩]⟩), (99, ⟨.box (), [⟨.row () [], .nl⟩, ⟨.row () [], .nl⟩]⟩), (101, ⟨.box (), [⟨.row () dv, .ow false⟩, ⟨.row () [], .nl⟩]⟩)]
        | none, some j => [(0, sBox b.limit ed es b.lists .sh .sh), (1, sHello dv dx .sh .sh), (2, ⟨.ptr 97 0, []⟩), (3, ⟨.ptr 98 0, []⟩), (4, ⟨.ptr 99 0, []⟩), (5, B false), (6, ⟨.ptr 101 0, []⟩), (7, I s.2.2.1), (8, I j.1), (9, B j.2), (97, ⟨.box (), [⟨.int .i64 b.limit, .sc⟩, ⟨.row () ed, .sh⟩, ⟨.row () es, .sh⟩, ⟨.bool b.lists, .sc⟩]⟩), (98, ⟨.box (), [⟨.row () dv, .sh⟩, ⟨.row () dx, .sh⟩]⟩), (99, ⟨.box (), [⟨.row () [], .nl⟩, ⟨.row () [], .nl⟩]⟩), (101, ⟨.box (), [⟨.row () dv, .ow false⟩, ⟨.row () [], .nl⟩]⟩)]
        | some eo, none => [(0, sBox b.limit ed es b.lists .sh .sh), (1, sHello dv dx .sh .sh), (2, ⟨.ptr 97 0, []⟩), (3, ⟨.ptr 98 0, []⟩), (4, ⟨.ptr 99 0, []⟩), (5, B false), (6, ⟨.ptr 101 0, []⟩), (7, I s.2.2.1), (97, ⟨.box (), [⟨.int .i64 b.limit, .sc⟩, ⟨.row () ed, .sh⟩, ⟨.row () es, .sh⟩, ⟨.bool b.lists, .sc⟩]⟩), (98, ⟨.box (), [⟨.row () dv, .sh⟩, ⟨.row () dx, .sh⟩]⟩), (99, ⟨.box (), [⟨.row () [], .nl⟩, ⟨.row () [], .nl⟩]⟩), (101, ⟨.box (), [⟨.row () dv, .ow false⟩, ⟨.row () eo, .ow false⟩]⟩)]
        | some eo, some j => [(0, sBox b.limit ed es b.lists .sh .sh), (1, sHello dv dx .sh .sh), (2, ⟨.ptr 97 0, []⟩), (3, ⟨.ptr 98 0, []⟩), (4, ⟨.ptr 99 0, []⟩), (5, B false), (6, ⟨.ptr 101 0, []⟩), (7, I s.2.2.1), (8, I j.1), (9, B j.2), (97, ⟨.box (), [⟨.int .i64 b.limit, .sc⟩, ⟨.row () ed, .sh⟩, ⟨.row () es, .sh⟩, ⟨.bool b.lists, .sc⟩]⟩), (98, ⟨.box (), [⟨.row () dv, .sh⟩, ⟨.row () dx, .sh⟩]⟩), (99, ⟨.box (), [⟨.row () [], .nl⟩, ⟨.row () [], .nl⟩]⟩), (101, ⟨.box (), [⟨.row () dv, .ow false⟩, ⟨.row () eo, .ow false⟩]⟩)])
      (fun s => At s.2.2.1 s.2.1.length ∧ h.exts = s.2.1 ++ s.1 ∧ (match s.2.2.2.1, s.2.2.2.2 with | none, _ => sel (stripE b.strips) idE s.2.1 = [] | some _, none => False | some eo, some _ => eo = row fExt (sel (stripE b.strips) idE s.2.1) ∧ sel (stripE b.strips) idE s.2.1 ≠ []) ∧ s.2.1.any (lost b) = false) (fun s => s.1.length) (h.exts, [], 0, none, none) rfl ⟨rfl, rfl, rfl, rfl⟩ ?_
    intro c9 Q1 hc9 hQ1
    rintro ⟨suf, pre, i, e, j⟩ ⟨hi, hl', hz, hany⟩ ih
    simp only at hi hl' hz hany ih
    have hpre : pre.length ≤ 1073741824 := by rw [hl'] at hxl; simp at hxl; omega
    have hs : (sel (stripE b.strips) idE pre).length ≤ pre.length := sel_len
    cases j with
    | none =>
      cases e with
      | none =>
        have hz : sel (stripE b.strips) idE pre = [] := hz
        cbv
        cases suf with
        | nil =>
          have hZp : sel (stripE b.strips) idE pre = Z := by rw [hZ, hl', List.append_nil]
          have hOk : h.exts.any (lost b) = false := by rw [hl', List.append_nil]; exact hany
          rw [hZp] at hz
          rw [F.lt_f hi lxn (by simp [hl'])]; cbv
          rw [hQ1]; cbv
          rw [hQ]; cbv
          exact congrArg some (rB (by rw [hOk]; rfl) hz)
        | cons x suf =>
          obtain ⟨ix, hix⟩ : ∃ y_, y_ = pre.length * 2 := ⟨_, rfl⟩
          obtain ⟨e1, he1⟩ : ∃ y_, y_ = row fI x.body := ⟨_, rfl⟩
          have hx := wh x (by rw [hl']; simp)
          have hi' : At (add .i64 i 1) (pre ++ [x]).length := at_len (F.inc hi (by omega)) (by simp)
          have hl2 : h.exts = (pre ++ [x]) ++ suf := by rw [hl']; simp
          have p0 : at' 2 dx i = some (ix, [.int .i64 x.tag, .row () e1]) := by rw [hix, he1]; exact F.get hi hdx hl' (fun _ => rfl) (by decide)
          obtain ⟨s, hs_⟩ : ∃ y_, y_ = hasI b.strips x.tag := ⟨_, rfl⟩
          obtain ⟨d, hd⟩ : ∃ y_, y_ = hasI b.drops x.tag := ⟨_, rfl⟩
          obtain ⟨q, hq⟩ : ∃ y_, y_ = inR x.tag 1 3 := ⟨_, rfl⟩
          have hSx : stripE b.strips x = !s := by rw [hs_]; rfl
          have hLx : lost b x = (d || (b.lists && !s && !q)) := by rw [hd, hs_, hq]; rfl
          have fC : lost b x = true → (!h.exts.any (lost b)) = false := fun hh => by
            rw [show h.exts.any (lost b) = true by rw [hl', List.any_append, List.any_cons, hh]; simp]; rfl
          have c3 : o 285 [R es (.sp 0 0), I x.tag] = some ⟨[B s], [], none⟩ := by rw [ho, hs_, hes]; exact ok285 _ _ (by omega) rfl
          have c4 : o 285 [R ed (.sp 0 0), I x.tag] = some ⟨[B d], [], none⟩ := by rw [ho, hd, hed]; exact ok285 _ _ (by omega) rfl
          have c5 : o 230 [I x.tag, I 1, I 3] = some ⟨[B q], [], none⟩ := by rw [ho, hq]; exact ok230 ..
          rw [F.lt_t hi lxn (by simp [hl'])]; cbv
          rw [p0]; cbv
          rw [c3]; cbv
          rw [c4]; cbv
          refine both (fun e1' => ?_) (fun e1' => ?_) <;> rw [e1'] <;> cbv
          · rw [hQ1]; cbv
            rw [hQ]; cbv
            exact congrArg some (rC (fC (by rw [hLx, e1']; rfl)))
          refine both (fun e2 => ?_) (fun e2 => ?_) <;> rw [e2] <;> cbv <;> rw [show b.lists = _ from e2] at ih
          · refine both (fun e3 => ?_) (fun e3 => ?_) <;> rw [e3] <;> cbv
            · rw [c5]; cbv
              refine both (fun e4 => ?_) (fun e4 => ?_) <;> rw [e4] <;> cbv
              · rw [hQ1]; cbv
                rw [hQ]; cbv
                exact congrArg some (rC (fC (by rw [hLx, e1', e2, F.not_t e3, F.not_t e4]; rfl)))
              · try (rw [e3]; cbv)
                rw [p0]; cbv
                rw [show allS e1 = true from F.scal he1 (fun _ => rfl)]; cbv
                rw [F.app_nil he1 (fun _ => rfl) hx]; cbv
                rw [show allS [[.int .i64 x.tag, .row () e1]] = false by rw [F.allS]; rfl]; cbv
                obtain ⟨eo', heo'⟩ : ∃ y_, y_ = row fExt (sel (stripE b.strips) idE pre ++ [idE x]) := ⟨_, rfl⟩
                rw [show app 2 [] [[.int .i64 x.tag, .row () e1]] = some eo' by rw [heo', he1]; exact F.push (k := 2) (f := fExt) (l := sel (stripE b.strips) idE pre) (x := idE x) (by rw [hz]; rfl) (fun _ => rfl) rfl (by omega)]; cbv
                try (rw [show isNil [[.int .i64 x.tag, .row () e1]] = false by rw [F.isNil]; rfl]; cbv)
                refine ih (suf, pre ++ [x], add .i64 i 1, some eo', some (x.tag, s)) ⟨hi', hl2, ?_, ?_⟩ (by simp)
                · simp only
                  rw [sel_t (by rw [hSx, F.not_t e3]; rfl)]
                  exact ⟨heo', by simp⟩
                · simp only [List.any_append, hany, List.any_cons, List.any_nil, hLx, e1', e2, F.not_t e3, F.not_f e4]; rfl
            · try (rw [e3]; cbv)
              refine ih (suf, pre ++ [x], add .i64 i 1, none, some (x.tag, s)) ⟨hi', hl2, ?_, ?_⟩ (by simp)
              · simp only
                rw [sel_f (by rw [hSx, F.not_f e3]; rfl)]
                exact hz
              · simp only [List.any_append, hany, List.any_cons, List.any_nil, hLx, e1', e2, F.not_f e3]; rfl
          · refine both (fun e3 => ?_) (fun e3 => ?_) <;> rw [e3] <;> cbv
            · rw [p0]; cbv
              rw [show allS e1 = true from F.scal he1 (fun _ => rfl)]; cbv
              rw [F.app_nil he1 (fun _ => rfl) hx]; cbv
              rw [show allS [[.int .i64 x.tag, .row () e1]] = false by rw [F.allS]; rfl]; cbv
              obtain ⟨eo', heo'⟩ : ∃ y_, y_ = row fExt (sel (stripE b.strips) idE pre ++ [idE x]) := ⟨_, rfl⟩
              rw [show app 2 [] [[.int .i64 x.tag, .row () e1]] = some eo' by rw [heo', he1]; exact F.push (k := 2) (f := fExt) (l := sel (stripE b.strips) idE pre) (x := idE x) (by rw [hz]; rfl) (fun _ => rfl) rfl (by omega)]; cbv
              try (rw [show isNil [[.int .i64 x.tag, .row () e1]] = false by rw [F.isNil]; rfl]; cbv)
              refine ih (suf, pre ++ [x], add .i64 i 1, some eo', some (x.tag, s)) ⟨hi', hl2, ?_, ?_⟩ (by simp)
              · simp only
                rw [sel_t (by rw [hSx, F.not_t e3]; rfl)]
                exact ⟨heo', by simp⟩
              · simp only [List.any_append, hany, List.any_cons, List.any_nil, hLx, e1', e2]; rfl
            · refine ih (suf, pre ++ [x], add .i64 i 1, none, some (x.tag, s)) ⟨hi', hl2, ?_, ?_⟩ (by simp)
              · simp only
                rw [sel_f (by rw [hSx, F.not_f e3]; rfl)]
                exact hz
              · simp only [List.any_append, hany, List.any_cons, List.any_nil, hLx, e1', e2]; rfl
      | some jx => exact False.elim hz
    | some jj =>
      obtain ⟨j1, j2⟩ := jj
      cases e with
      | none =>
        have hz : sel (stripE b.strips) idE pre = [] := hz
        cbv
        cases suf with
        | nil =>
          have hZp : sel (stripE b.strips) idE pre = Z := by rw [hZ, hl', List.append_nil]
          have hOk : h.exts.any (lost b) = false := by rw [hl', List.append_nil]; exact hany
          rw [hZp] at hz
          rw [F.lt_f hi lxn (by simp [hl'])]; cbv
          rw [hQ1]; cbv
          rw [hQ]; cbv
          exact congrArg some (rB (by rw [hOk]; rfl) hz)
        | cons x suf =>
          obtain ⟨ix, hix⟩ : ∃ y_, y_ = pre.length * 2 := ⟨_, rfl⟩
          obtain ⟨e1, he1⟩ : ∃ y_, y_ = row fI x.body := ⟨_, rfl⟩
          have hx := wh x (by rw [hl']; simp)
          have hi' : At (add .i64 i 1) (pre ++ [x]).length := at_len (F.inc hi (by omega)) (by simp)
          have hl2 : h.exts = (pre ++ [x]) ++ suf := by rw [hl']; simp
          have p0 : at' 2 dx i = some (ix, [.int .i64 x.tag, .row () e1]) := by rw [hix, he1]; exact F.get hi hdx hl' (fun _ => rfl) (by decide)
          obtain ⟨s, hs_⟩ : ∃ y_, y_ = hasI b.strips x.tag := ⟨_, rfl⟩
          obtain ⟨d, hd⟩ : ∃ y_, y_ = hasI b.drops x.tag := ⟨_, rfl⟩
          obtain ⟨q, hq⟩ : ∃ y_, y_ = inR x.tag 1 3 := ⟨_, rfl⟩
          have hSx : stripE b.strips x = !s := by rw [hs_]; rfl
          have hLx : lost b x = (d || (b.lists && !s && !q)) := by rw [hd, hs_, hq]; rfl
          have fC : lost b x = true → (!h.exts.any (lost b)) = false := fun hh => by
            rw [show h.exts.any (lost b) = true by rw [hl', List.any_append, List.any_cons, hh]; simp]; rfl
          have c3 : o 285 [R es (.sp 0 0), I x.tag] = some ⟨[B s], [], none⟩ := by rw [ho, hs_, hes]; exact ok285 _ _ (by omega) rfl
          have c4 : o 285 [R ed (.sp 0 0), I x.tag] = some ⟨[B d], [], none⟩ := by rw [ho, hd, hed]; exact ok285 _ _ (by omega) rfl
          have c5 : o 230 [I x.tag, I 1, I 3] = some ⟨[B q], [], none⟩ := by rw [ho, hq]; exact ok230 ..
          rw [F.lt_t hi lxn (by simp [hl'])]; cbv
          rw [p0]; cbv
          rw [c3]; cbv
          rw [c4]; cbv
          refine both (fun e1' => ?_) (fun e1' => ?_) <;> rw [e1'] <;> cbv
          · rw [hQ1]; cbv
            rw [hQ]; cbv
            exact congrArg some (rC (fC (by rw [hLx, e1']; rfl)))
          refine both (fun e2 => ?_) (fun e2 => ?_) <;> rw [e2] <;> cbv <;> rw [show b.lists = _ from e2] at ih
          · refine both (fun e3 => ?_) (fun e3 => ?_) <;> rw [e3] <;> cbv
            · rw [c5]; cbv
              refine both (fun e4 => ?_) (fun e4 => ?_) <;> rw [e4] <;> cbv
              · rw [hQ1]; cbv
                rw [hQ]; cbv
                exact congrArg some (rC (fC (by rw [hLx, e1', e2, F.not_t e3, F.not_t e4]; rfl)))
              · try (rw [e3]; cbv)
                rw [p0]; cbv
                rw [show allS e1 = true from F.scal he1 (fun _ => rfl)]; cbv
                rw [F.app_nil he1 (fun _ => rfl) hx]; cbv
                rw [show allS [[.int .i64 x.tag, .row () e1]] = false by rw [F.allS]; rfl]; cbv
                obtain ⟨eo', heo'⟩ : ∃ y_, y_ = row fExt (sel (stripE b.strips) idE pre ++ [idE x]) := ⟨_, rfl⟩
                rw [show app 2 [] [[.int .i64 x.tag, .row () e1]] = some eo' by rw [heo', he1]; exact F.push (k := 2) (f := fExt) (l := sel (stripE b.strips) idE pre) (x := idE x) (by rw [hz]; rfl) (fun _ => rfl) rfl (by omega)]; cbv
                try (rw [show isNil [[.int .i64 x.tag, .row () e1]] = false by rw [F.isNil]; rfl]; cbv)
                refine ih (suf, pre ++ [x], add .i64 i 1, some eo', some (x.tag, s)) ⟨hi', hl2, ?_, ?_⟩ (by simp)
                · simp only
                  rw [sel_t (by rw [hSx, F.not_t e3]; rfl)]
                  exact ⟨heo', by simp⟩
                · simp only [List.any_append, hany, List.any_cons, List.any_nil, hLx, e1', e2, F.not_t e3, F.not_f e4]; rfl
            · try (rw [e3]; cbv)
              refine ih (suf, pre ++ [x], add .i64 i 1, none, some (x.tag, s)) ⟨hi', hl2, ?_, ?_⟩ (by simp)
              · simp only
                rw [sel_f (by rw [hSx, F.not_f e3]; rfl)]
                exact hz
              · simp only [List.any_append, hany, List.any_cons, List.any_nil, hLx, e1', e2, F.not_f e3]; rfl
          · refine both (fun e3 => ?_) (fun e3 => ?_) <;> rw [e3] <;> cbv
            · rw [p0]; cbv
              rw [show allS e1 = true from F.scal he1 (fun _ => rfl)]; cbv
              rw [F.app_nil he1 (fun _ => rfl) hx]; cbv
              rw [show allS [[.int .i64 x.tag, .row () e1]] = false by rw [F.allS]; rfl]; cbv
              obtain ⟨eo', heo'⟩ : ∃ y_, y_ = row fExt (sel (stripE b.strips) idE pre ++ [idE x]) := ⟨_, rfl⟩
              rw [show app 2 [] [[.int .i64 x.tag, .row () e1]] = some eo' by rw [heo', he1]; exact F.push (k := 2) (f := fExt) (l := sel (stripE b.strips) idE pre) (x := idE x) (by rw [hz]; rfl) (fun _ => rfl) rfl (by omega)]; cbv
              try (rw [show isNil [[.int .i64 x.tag, .row () e1]] = false by rw [F.isNil]; rfl]; cbv)
              refine ih (suf, pre ++ [x], add .i64 i 1, some eo', some (x.tag, s)) ⟨hi', hl2, ?_, ?_⟩ (by simp)
              · simp only
                rw [sel_t (by rw [hSx, F.not_t e3]; rfl)]
                exact ⟨heo', by simp⟩
              · simp only [List.any_append, hany, List.any_cons, List.any_nil, hLx, e1', e2]; rfl
            · refine ih (suf, pre ++ [x], add .i64 i 1, none, some (x.tag, s)) ⟨hi', hl2, ?_, ?_⟩ (by simp)
              · simp only
                rw [sel_f (by rw [hSx, F.not_f e3]; rfl)]
                exact hz
              · simp only [List.any_append, hany, List.any_cons, List.any_nil, hLx, e1', e2]; rfl
      | some jx =>
        have hz : jx = row fExt (sel (stripE b.strips) idE pre) ∧ sel (stripE b.strips) idE pre ≠ [] := hz
        cbv
        cases suf with
        | nil =>
          have hZp : sel (stripE b.strips) idE pre = Z := by rw [hZ, hl', List.append_nil]
          have hOk : h.exts.any (lost b) = false := by rw [hl', List.append_nil]; exact hany
          rw [hZp] at hz
          rw [F.lt_f hi lxn (by simp [hl'])]; cbv
          rw [hQ1]; cbv
          rw [hQ]; cbv
          rw [hz.1]; exact congrArg some (rA (by rw [hOk]; rfl) hz.2)
        | cons x suf =>
          obtain ⟨ix, hix⟩ : ∃ y_, y_ = pre.length * 2 := ⟨_, rfl⟩
          obtain ⟨e1, he1⟩ : ∃ y_, y_ = row fI x.body := ⟨_, rfl⟩
          have hx := wh x (by rw [hl']; simp)
          have hi' : At (add .i64 i 1) (pre ++ [x]).length := at_len (F.inc hi (by omega)) (by simp)
          have hl2 : h.exts = (pre ++ [x]) ++ suf := by rw [hl']; simp
          have p0 : at' 2 dx i = some (ix, [.int .i64 x.tag, .row () e1]) := by rw [hix, he1]; exact F.get hi hdx hl' (fun _ => rfl) (by decide)
          obtain ⟨s, hs_⟩ : ∃ y_, y_ = hasI b.strips x.tag := ⟨_, rfl⟩
          obtain ⟨d, hd⟩ : ∃ y_, y_ = hasI b.drops x.tag := ⟨_, rfl⟩
          obtain ⟨q, hq⟩ : ∃ y_, y_ = inR x.tag 1 3 := ⟨_, rfl⟩
          have hSx : stripE b.strips x = !s := by rw [hs_]; rfl
          have hLx : lost b x = (d || (b.lists && !s && !q)) := by rw [hd, hs_, hq]; rfl
          have fC : lost b x = true → (!h.exts.any (lost b)) = false := fun hh => by
            rw [show h.exts.any (lost b) = true by rw [hl', List.any_append, List.any_cons, hh]; simp]; rfl
          have c3 : o 285 [R es (.sp 0 0), I x.tag] = some ⟨[B s], [], none⟩ := by rw [ho, hs_, hes]; exact ok285 _ _ (by omega) rfl
          have c4 : o 285 [R ed (.sp 0 0), I x.tag] = some ⟨[B d], [], none⟩ := by rw [ho, hd, hed]; exact ok285 _ _ (by omega) rfl
          have c5 : o 230 [I x.tag, I 1, I 3] = some ⟨[B q], [], none⟩ := by rw [ho, hq]; exact ok230 ..
          rw [F.lt_t hi lxn (by simp [hl'])]; cbv
          rw [p0]; cbv
          rw [c3]; cbv
          rw [c4]; cbv
          refine both (fun e1' => ?_) (fun e1' => ?_) <;> rw [e1'] <;> cbv
          · rw [hQ1]; cbv
            rw [hQ]; cbv
            exact congrArg some (rC (fC (by rw [hLx, e1']; rfl)))
          refine both (fun e2 => ?_) (fun e2 => ?_) <;> rw [e2] <;> cbv <;> rw [show b.lists = _ from e2] at ih
          · refine both (fun e3 => ?_) (fun e3 => ?_) <;> rw [e3] <;> cbv
            · rw [c5]; cbv
              refine both (fun e4 => ?_) (fun e4 => ?_) <;> rw [e4] <;> cbv
              · rw [hQ1]; cbv
                rw [hQ]; cbv
                exact congrArg some (rC (fC (by rw [hLx, e1', e2, F.not_t e3, F.not_t e4]; rfl)))
              · try (rw [e3]; cbv)
                rw [p0]; cbv
                rw [show allS e1 = true from F.scal he1 (fun _ => rfl)]; cbv
                rw [F.app_nil he1 (fun _ => rfl) hx]; cbv
                rw [show allS [[.int .i64 x.tag, .row () e1]] = false by rw [F.allS]; rfl]; cbv
                obtain ⟨eo', heo'⟩ : ∃ y_, y_ = row fExt (sel (stripE b.strips) idE pre ++ [idE x]) := ⟨_, rfl⟩
                rw [show app 2 jx [[.int .i64 x.tag, .row () e1]] = some eo' by rw [heo', he1]; exact F.push (k := 2) (f := fExt) (l := sel (stripE b.strips) idE pre) (x := idE x) hz.1 (fun _ => rfl) rfl (by omega)]; cbv
                try (rw [show isNil [[.int .i64 x.tag, .row () e1]] = false by rw [F.isNil]; rfl]; cbv)
                refine ih (suf, pre ++ [x], add .i64 i 1, some eo', some (x.tag, s)) ⟨hi', hl2, ?_, ?_⟩ (by simp)
                · simp only
                  rw [sel_t (by rw [hSx, F.not_t e3]; rfl)]
                  exact ⟨heo', by simp⟩
                · simp only [List.any_append, hany, List.any_cons, List.any_nil, hLx, e1', e2, F.not_t e3, F.not_f e4]; rfl
            · try (rw [e3]; cbv)
              refine ih (suf, pre ++ [x], add .i64 i 1, some jx, some (x.tag, s)) ⟨hi', hl2, ?_, ?_⟩ (by simp)
              · simp only
                rw [sel_f (by rw [hSx, F.not_f e3]; rfl)]
                exact hz
              · simp only [List.any_append, hany, List.any_cons, List.any_nil, hLx, e1', e2, F.not_f e3]; rfl
          · refine both (fun e3 => ?_) (fun e3 => ?_) <;> rw [e3] <;> cbv
            · rw [p0]; cbv
              rw [show allS e1 = true from F.scal he1 (fun _ => rfl)]; cbv
              rw [F.app_nil he1 (fun _ => rfl) hx]; cbv
              rw [show allS [[.int .i64 x.tag, .row () e1]] = false by rw [F.allS]; rfl]; cbv
              obtain ⟨eo', heo'⟩ : ∃ y_, y_ = row fExt (sel (stripE b.strips) idE pre ++ [idE x]) := ⟨_, rfl⟩
              rw [show app 2 jx [[.int .i64 x.tag, .row () e1]] = some eo' by rw [heo', he1]; exact F.push (k := 2) (f := fExt) (l := sel (stripE b.strips) idE pre) (x := idE x) hz.1 (fun _ => rfl) rfl (by omega)]; cbv
              try (rw [show isNil [[.int .i64 x.tag, .row () e1]] = false by rw [F.isNil]; rfl]; cbv)
              refine ih (suf, pre ++ [x], add .i64 i 1, some eo', some (x.tag, s)) ⟨hi', hl2, ?_, ?_⟩ (by simp)
              · simp only
                rw [sel_t (by rw [hSx, F.not_t e3]; rfl)]
                exact ⟨heo', by simp⟩
              · simp only [List.any_append, hany, List.any_cons, List.any_nil, hLx, e1', e2]; rfl
            · refine ih (suf, pre ++ [x], add .i64 i 1, some jx, some (x.tag, s)) ⟨hi', hl2, ?_, ?_⟩ (by simp)
              · simp only
                rw [sel_f (by rw [hSx, F.not_f e3]; rfl)]
                exact hz
              · simp only [List.any_append, hany, List.any_cons, List.any_nil, hLx, e1', e2]; rfl
theorem ok173 (b : Box) (h : Hello) (bd1 : b.drops.length ≤ 1073741824) (bs1 : b.strips.length ≤ 1073741824) (mh : h.Mid) {f0 f1 f2 f3 : Fl} (q0 : inFl f0 = true) (q1 : inFl f1 = true) (q2 : inFl f2 = true) (q3 : inFl f3 = true) :
    fix Tb md 173 [sBox b.limit (row fI b.drops) (row fI b.strips) b.lists f0 f1, sHello (row fI h.versions) (row fExt h.exts) f2 f3] = some ⟨[sHello (row fI (pbV b h).versions) (row fExt (pbV b h).exts) (.ow false) (.ow false), B (pbOk b h)], [], none⟩ ∨
    ((pbV b h).exts = [] ∧ fix Tb md 173 [sBox b.limit (row fI b.drops) (row fI b.strips) b.lists f0 f1, sHello (row fI h.versions) (row fExt h.exts) f2 f3] = some ⟨[sHello (row fI (pbV b h).versions) [] (.ow false) .nl, B (pbOk b h)], [], none⟩) ∨
    ((pbV b h).versions = [] ∧ (pbV b h).exts = [] ∧ fix Tb md 173 [sBox b.limit (row fI b.drops) (row fI b.strips) b.lists f0 f1, sHello (row fI h.versions) (row fExt h.exts) f2 f3] = some ⟨[sHello [] [] .nl .nl, B (pbOk b h)], [], none⟩) := by
  obtain ⟨Z, hZ⟩ : ∃ y_, y_ = sel (stripE b.strips) idE h.exts := ⟨_, rfl⟩
  have hmain := fun r a c d => ok173r b h bd1 bs1 mh q0 q1 q2 q3 Z hZ r a c d
  unfold pbV
  rw [← hZ]
  cases ho : pbOk b h with
  | false => exact .inr (.inr ⟨rfl, rfl, hmain _ (fun q => by rw [ho] at q; cases q) (fun q => by rw [ho] at q; cases q) (fun _ => rfl)⟩)
  | true =>
    by_cases hz : Z = []
    · exact .inr (.inl ⟨hz, hmain _ (fun _ q => absurd hz q) (fun _ _ => rfl) (fun q => by rw [ho] at q; cases q)⟩)
    · exact .inl (hmain _ (fun _ _ => rfl) (fun _ q => absurd q hz) (fun q => by rw [ho] at q; cases q))

/- spec.TagsOf -/
def yesE (_ : Ext) : Bool := true
theorem ok280 (l : List Ext) (hl : l.length ≤ 1073741824) {f0 : Fl} (h0 : inFl f0 = true) : fix Tb md 280 [R (row fExt l) f0] = some ⟨[R (row fI (sel yesE Ext.tag l)) (.ow false)], [], none⟩ := by
  obtain ⟨et, het⟩ : ∃ y_, y_ = row fI (sel yesE Ext.tag l) := ⟨_, rfl⟩
  rw [← het]
  generalize hr : (⟨_, [], none⟩ : Ret) = r
  obtain ⟨ea, hea⟩ : ∃ y_, y_ = row fExt l := ⟨_, rfl⟩
  rw [← hea]
  refine fix_fn2 (fn := ir280) tb_280 rfl rfl (by decide) rfl ?_; intro Q hQ; simp only [shutArgs, shutS, List.map_cons, List.map_nil, ir280, shut_in h0, List.head?_nil, reduceCtorEq, if_false, sExt, sHello, sAnswer, sEdit, sDeal, sBox, sDialed, sKnown]
  intro add sub mul arith eq ne lt le gt ge neg conv mn mx not beq len at' ln bd cut app allS isNil mks set o hP F ho
  have la := F.len_at hea
  cbv
  refine loop_ind2 hP (σ := List Ext × List Ext × List (List V) × Int) (fun s => [(0, R ea .sh), (2, R [] .nl), (3, R s.2.2.1 (.ow false)), (4, I s.2.2.2)]) (fun s => At s.2.2.2 s.2.1.length ∧ l = s.2.1 ++ s.1 ∧ s.2.2.1 = row fI (sel yesE Ext.tag s.2.1)) (fun s => s.1.length) (l, [], [], 0) rfl ⟨rfl, rfl, rfl⟩ ?_
  intro c1 Q1 hc1 hQ1
  rintro ⟨suf, pre, eo, i⟩ ⟨hi, hl', hb⟩ ih
  simp only at hi hl' hb ih
  cbv
  cases suf with
  | nil =>
    rw [F.lt_f hi la (by simp [hl'])]; cbv
    rw [hQ1]; cbv
    rw [hQ]; cbv
    rw [← hr, het, hb, hl', List.append_nil]
  | cons x suf =>
    obtain ⟨ix, hix⟩ : ∃ y_, y_ = pre.length * 2 := ⟨_, rfl⟩
    have hpre : pre.length ≤ 1073741824 := by rw [hl'] at hl; simp at hl; omega
    have hs : (sel yesE Ext.tag pre).length ≤ pre.length := sel_len
    have hi' : At (add .i64 i 1) (pre ++ [x]).length := at_len (F.inc hi (by omega)) (by simp)
    have hl2 : l = (pre ++ [x]) ++ suf := by rw [hl']; simp
    have hmem : x ∈ l := by rw [hl']; simp
    obtain ⟨e1, he1⟩ : ∃ y_, y_ = row fI x.body := ⟨_, rfl⟩
    have p0 : at' 2 ea i = some (ix, [.int .i64 x.tag, .row () e1]) := by rw [hix, he1]; exact F.get hi hea hl' (fun _ => rfl) (by decide)
    rw [F.lt_t hi la (by simp [hl'])]; cbv
    rw [p0]; cbv
    rw [show allS [[.int .i64 x.tag]] = true by rw [F.allS]; rfl]; cbv
    obtain ⟨eo', heo'⟩ : ∃ y_, y_ = row fI (sel yesE Ext.tag pre ++ [Ext.tag x]) := ⟨_, rfl⟩
    rw [show app 1 eo [[.int .i64 x.tag]] = some eo' by rw [heo']; exact F.push hb (fun _ => rfl) rfl (by omega)]; cbv
    refine ih (suf, pre ++ [x], eo', add .i64 i 1) ⟨hi', hl2, by simp only; rw [heo', sel_t rfl]⟩ (by simp)

/- spec.KnownOf -/
def tagIn (b : List Int) (e : Ext) : Bool := hasI b e.tag
theorem ok307 (l : List Ext) (b : List Int) (hl : l.length ≤ 1073741824) (hb' : b.length ≤ 1073741824) (w : ∀ y ∈ l, y.body.length ≤ 1099511627776) {f0 f1 : Fl} (h0 : inFl f0 = true) (h1 : inFl f1 = true) : fix Tb md 307 [R (row fExt l) f0, R (row fI b) f1] = some ⟨[R (row fExt (sel (tagIn b) idE l)) (.ow false)], [], none⟩ := by
  obtain ⟨et, het⟩ : ∃ y_, y_ = row fExt (sel (tagIn b) idE l) := ⟨_, rfl⟩
  rw [← het]
  generalize hr : (⟨_, [], none⟩ : Ret) = r
  obtain ⟨ea, hea⟩ : ∃ y_, y_ = row fExt l := ⟨_, rfl⟩
  obtain ⟨eb, heb⟩ : ∃ y_, y_ = row fI b := ⟨_, rfl⟩
  rw [← hea, ← heb]
  refine fix_fn2 (fn := ir307) tb_307 rfl rfl (by decide) rfl ?_; intro Q hQ; simp only [shutArgs, shutS, List.map_cons, List.map_nil, ir307, shut_in h0, shut_in h1, List.head?_nil, reduceCtorEq, if_false, sExt, sHello, sAnswer, sEdit, sDeal, sBox, sDialed, sKnown]
  intro add sub mul arith eq ne lt le gt ge neg conv mn mx not beq len at' ln bd cut app allS isNil mks set o hP F ho
  have la := F.len_at hea
  cbv
  refine loop_ind2 hP (σ := List Ext × List Ext × List (List V) × Int) (fun s => [(0, R ea .sh), (1, R eb .sh), (4, R [] .nl), (5, R s.2.2.1 (.ow false)), (6, I s.2.2.2)]) (fun s => At s.2.2.2 s.2.1.length ∧ l = s.2.1 ++ s.1 ∧ s.2.2.1 = row fExt (sel (tagIn b) idE s.2.1)) (fun s => s.1.length) (l, [], [], 0) rfl ⟨rfl, rfl, rfl⟩ ?_
  intro c1 Q1 hc1 hQ1
  rintro ⟨suf, pre, eo, i⟩ ⟨hi, hl', hb⟩ ih
  simp only at hi hl' hb ih
  cbv
  cases suf with
  | nil =>
    rw [F.lt_f hi la (by simp [hl'])]; cbv
    rw [hQ1]; cbv
    rw [hQ]; cbv
    rw [← hr, het, hb, hl', List.append_nil]
  | cons x suf =>
    obtain ⟨ix, hix⟩ : ∃ y_, y_ = pre.length * 2 := ⟨_, rfl⟩
    have hpre : pre.length ≤ 1073741824 := by rw [hl'] at hl; simp at hl; omega
    have hs : (sel (tagIn b) idE pre).length ≤ pre.length := sel_len
    have hi' : At (add .i64 i 1) (pre ++ [x]).length := at_len (F.inc hi (by omega)) (by simp)
    have hl2 : l = (pre ++ [x]) ++ suf := by rw [hl']; simp
    have hmem : x ∈ l := by rw [hl']; simp
    obtain ⟨e1, he1⟩ : ∃ y_, y_ = row fI x.body := ⟨_, rfl⟩
    have hx := w x hmem
    have p0 : at' 2 ea i = some (ix, [.int .i64 x.tag, .row () e1]) := by rw [hix, he1]; exact F.get hi hea hl' (fun _ => rfl) (by decide)
    obtain ⟨v, hv⟩ : ∃ y_, y_ = tagIn b x := ⟨_, rfl⟩
    have c2 : o 285 [R eb (.sp 0 0), I x.tag] = some ⟨[B v], [], none⟩ := by rw [ho, hv, heb]; exact ok285 _ _ (by omega) rfl
    rw [F.lt_t hi la (by simp [hl'])]; cbv
    rw [p0]; cbv
    rw [c2]; cbv
    refine both (fun d => ?_) (fun d => ?_) <;> rw [d] <;> cbv
    · rw [p0]; cbv
      rw [p0]; cbv
      rw [show allS e1 = true from F.scal he1 (fun _ => rfl)]; cbv
      rw [F.app_nil he1 (fun _ => rfl) hx]; cbv
      rw [show allS [[.int .i64 x.tag, .row () e1]] = false by rw [F.allS]; rfl]; cbv
      obtain ⟨eo', heo'⟩ : ∃ y_, y_ = row fExt (sel (tagIn b) idE pre ++ [idE x]) := ⟨_, rfl⟩
      rw [show app 2 eo [[.int .i64 x.tag, .row () e1]] = some eo' by rw [heo', he1]; exact F.push hb (fun _ => rfl) rfl (by omega)]; cbv
      refine ih (suf, pre ++ [x], eo', add .i64 i 1) ⟨hi', hl2, by simp only; rw [heo', sel_t (by rw [← hv, d])]⟩ (by simp)
    · refine ih (suf, pre ++ [x], eo, add .i64 i 1) ⟨hi', hl2, by simp only; rw [hb, sel_f (by rw [← hv, d])]⟩ (by simp)

/- spec.l11Copy -/
theorem copy_id (l : List Ext) : sel (tagIn (sel yesE Ext.tag l)) idE l = l := by
  rw [sel_idE, List.filter_eq_self]
  intro a ha
  unfold tagIn hasI sel
  rw [List.any_eq_true]
  exact ⟨a.tag, List.mem_map.2 ⟨a, by simp [yesE, ha], rfl⟩, by simp⟩
theorem ok295 (l : List Ext) (hl : l.length ≤ 1073741824) (w : ∀ y ∈ l, y.body.length ≤ 1099511627776) {f0 : Fl} (h0 : inFl f0 = true) : fix Tb md 295 [R (row fExt l) f0] = some ⟨[R (row fExt l) (.ow false)], [], none⟩ := by
  obtain ⟨ea, hea⟩ : ∃ y_, y_ = row fExt l := ⟨_, rfl⟩
  rw [← hea]
  generalize hr : (⟨_, [], none⟩ : Ret) = r
  obtain ⟨et, het⟩ : ∃ y_, y_ = row fI (sel yesE Ext.tag l) := ⟨_, rfl⟩
  have hlen : (sel yesE Ext.tag l).length ≤ l.length := sel_len
  refine fix_fn2 (fn := ir295) tb_295 rfl rfl (by decide) rfl ?_; intro Q hQ; simp only [shutArgs, shutS, List.map_cons, List.map_nil, ir295, shut_in h0, List.head?_nil, reduceCtorEq, if_false, sExt, sHello, sAnswer, sEdit, sDeal, sBox, sDialed, sKnown]
  intro add sub mul arith eq ne lt le gt ge neg conv mn mx not beq len at' ln bd cut app allS isNil mks set o hP F ho
  have c1 : o 280 [R ea (.sp 0 0)] = some ⟨[R et (.ow false)], [], none⟩ := by rw [ho, het, hea]; exact ok280 _ hl rfl
  have c2 : o 307 [R ea (.sp 0 0), R et (.sp 1 0)] = some ⟨[R ea (.ow false)], [], none⟩ := by
    rw [ho, het, hea]
    have h := ok307 l (sel yesE Ext.tag l) hl (by omega) w (f0 := .sp 0 0) (f1 := .sp 1 0) rfl rfl
    rw [copy_id] at h
    exact h
  cbv
  rw [c1]; cbv
  rw [c2]; cbv
  rw [hQ]; cbv
  exact congrArg some hr

/- spec.l18Hello -/
theorem ok279 (h : Hello) (mh : h.Mid) {f0 f1 : Fl} (q0 : inFl f0 = true) (q1 : inFl f1 = true) : fix Tb md 279 [sHello (row fI h.versions) (row fExt h.exts) f0 f1] = some ⟨[sHello (row fI h.versions) (row fExt h.exts) (.ow false) (.ow false)], [], none⟩ := by
  have mh' := mh
  unfold Hello.Mid at mh'
  obtain ⟨ev, hev⟩ : ∃ y_, y_ = row fI h.versions := ⟨_, rfl⟩
  obtain ⟨ex, hex⟩ : ∃ y_, y_ = row fExt h.exts := ⟨_, rfl⟩
  rw [← hev, ← hex]
  generalize hr : (⟨_, [], none⟩ : Ret) = r
  refine fix_fn2 (fn := ir279) tb_279 rfl rfl (by decide) rfl ?_; intro Q hQ; simp only [shutArgs, shutS, List.map_cons, List.map_nil, ir279, shut_in q0, shut_in q1, List.head?_nil, reduceCtorEq, if_false, sExt, sHello, sAnswer, sEdit, sDeal, sBox, sDialed, sKnown]
  intro add sub mul arith eq ne lt le gt ge neg conv mn mx not beq len at' ln bd cut app allS isNil mks set o hP F ho
  have c1 : o 295 [R ex (.sp 0 0)] = some ⟨[R ex (.ow false)], [], none⟩ := by rw [ho, hex]; exact ok295 _ mh'.2.1 (fun y hy => Nat.le_trans (show y.body.length ≤ 1073741824 from mh'.2.2 y hy) (by decide)) rfl
  cbv
  rw [show allS ev = true from F.scal hev (fun _ => rfl)]; cbv
  rw [F.app_nil hev (fun _ => rfl) (Nat.le_trans mh'.1 (by decide))]; cbv
  rw [c1]; cbv
  rw [hQ]; cbv
  exact congrArg some hr

end Go.Vm
