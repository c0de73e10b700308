/- What the functions answer. -/
import Derived.Test.YtpjfkjkhmmbacaaL32Tab
set_option maxHeartbeats 4000000
set_option maxRecDepth 10000
set_option linter.unusedVariables false
set_option linter.unusedSimpArgs false
namespace Go.Vm

/- laws.szIntS -/
theorem ok227 {α : Type} (f : α → List V) (l : List α) (left : Int) (h : l.length ≤ 9223372036854775807) (h1 : 0 ≤ left) (h2 : left ≤ 1048576) {f0 : Fl} (h0 : inFl f0 = true) : fix Tb md 227 [R (row f l) f0, I left] = some ⟨[I (sz1 l.length left)], [], none⟩ := by
  by_cases hl : left - l.length < 0
  · rw [show sz1 l.length left = -1 by unfold sz1; rw [if_pos hl]]
    refine fix_fn (fn := ir227) tb_227 rfl rfl (by decide) rfl ?_; simp only [shutArgs, shutS, List.map_cons, List.map_nil, ir227, shut_in h0, List.head?_nil, reduceCtorEq, if_false, sExt, sHello, sAnswer, sEdit, sDeal, sBox, sDialed, sKnown]
    generalize hr : (⟨_, [], none⟩ : Ret) = r
    obtain ⟨ea, hea⟩ : ∃ y_, y_ = row f l := ⟨_, rfl⟩
    rw [← hea]
    intro add sub mul arith eq ne lt le gt ge neg conv mn mx not beq len at' ln bd cut app allS isNil mks set o hP F ho
    have le := F.len_at hea
    unfold At at le
    have hs : lt (sub .i64 left (len ea)) 0 = true := by rw [F.lt, F.sub, le, wrap64 (by omega) (by omega)]; simp; omega
    cbv
    rw [hs]
    cbv
    exact congrArg some hr
  · rw [show sz1 l.length left = left - l.length by unfold sz1; rw [if_neg hl]]
    refine fix_fn (fn := ir227) tb_227 rfl rfl (by decide) rfl ?_; simp only [shutArgs, shutS, List.map_cons, List.map_nil, ir227, shut_in h0, List.head?_nil, reduceCtorEq, if_false, sExt, sHello, sAnswer, sEdit, sDeal, sBox, sDialed, sKnown]
    obtain ⟨v, hv⟩ : ∃ y_, y_ = left - l.length := ⟨_, rfl⟩
    rw [← hv]
    generalize hr : (⟨_, [], none⟩ : Ret) = r
    obtain ⟨ea, hea⟩ : ∃ y_, y_ = row f l := ⟨_, rfl⟩
    rw [← hea]
    intro add sub mul arith eq ne lt le gt ge neg conv mn mx not beq len at' ln bd cut app allS isNil mks set o hP F ho
    have le := F.len_at hea
    unfold At at le
    have e1 : sub .i64 left (len ea) = v := by rw [F.sub, le, wrap64 (by omega) (by omega), hv]
    have hs : lt v 0 = false := by rw [F.lt, hv]; simp; omega
    cbv
    rw [e1, hs]
    cbv
    exact congrArg some hr

/- laws.szExt -/
theorem ok319 (x : Ext) (left : Int) (w : x.Fits) (h1 : 0 ≤ left) (h2 : left ≤ 1048576) {f0 : Fl} (q0 : inFl f0 = true) :
    fix Tb md 319 [sExt x.tag (row fI x.body) f0, I left] = some ⟨[I (szExt x left)], [], none⟩ := by
  refine fix_fn (fn := ir319) tb_319 rfl rfl (by decide) rfl ?_; simp only [shutArgs, shutS, List.map_cons, List.map_nil, ir319, shut_in q0, List.head?_nil, reduceCtorEq, if_false, sExt, sHello, sAnswer, sEdit, sDeal, sBox, sDialed, sKnown]
  obtain ⟨v1, hv1⟩ : ∃ y_, y_ = sz1 x.body.length left := ⟨_, rfl⟩
  rw [show szExt x left = v1 by rw [hv1]; rfl]
  generalize hr : (⟨_, [], none⟩ : Ret) = r
  obtain ⟨e1, he1⟩ : ∃ y_, y_ = row fI x.body := ⟨_, rfl⟩
  rw [← he1]
  have g1 : v1 ≤ 1048576 := by rw [hv1]; exact (Sz.of1 x.body.length).up h2
  have l1 : -1 ≤ v1 := by rw [hv1]; exact (Sz.of1 x.body.length).lo _ h2
  unfold Ext.Fits at w
  intro add sub mul arith eq ne lt le gt ge neg conv mn mx not beq len at' ln bd cut app allS isNil mks set o hP F ho
  have c1 : o 227 [R e1 (.sp 0 0), I left] = some ⟨[I v1], [], none⟩ := by rw [ho, hv1, he1]; exact ok227 fI _ _ w.2.1 h1 h2 rfl
  cbv
  rw [c1]; cbv
  refine both (fun d1 => ?_) (fun d1 => ?_) <;> rw [d1] <;> cbv
  · clear hP c1 ho; simp only [F.lt, decide_eq_true_eq] at d1; clear F; rw [← hr, show v1 = -1 by omega]
  exact congrArg some hr

/- laws.szExtS -/
theorem ok197 (l : List Ext) (left : Int) (w : l.length ≤ 9223372036854775807 ∧ ∀ y ∈ l, y.Fits) (h1 : 0 ≤ left) (h2 : left ≤ 1048576) {f0 : Fl} (q0 : inFl f0 = true) :
    fix Tb md 197 [R (row fExt l) f0, I left] = some ⟨[I (szL szExt l left)], [], none⟩ := by
  have w1 := w.1
  by_cases hl : left - l.length < 0
  · rw [show szL szExt l left = -1 from szF_neg szExt_Sz l _ (by unfold sz1; rw [if_pos hl])]
    refine fix_fn (fn := ir197) tb_197 rfl rfl (by decide) rfl ?_; simp only [shutArgs, shutS, List.map_cons, List.map_nil, ir197, shut_in q0, List.head?_nil, reduceCtorEq, if_false, sExt, sHello, sAnswer, sEdit, sDeal, sBox, sDialed, sKnown]
    generalize hr : (⟨_, [], none⟩ : Ret) = r
    obtain ⟨ea, hea⟩ : ∃ y_, y_ = row fExt l := ⟨_, rfl⟩
    rw [← hea]
    intro add sub mul arith eq ne lt le gt ge neg conv mn mx not beq len at' ln bd cut app allS isNil mks set o hP F ho
    have le := F.len_at hea
    unfold At at le
    have hs : lt (sub .i64 left (len ea)) 0 = true := by rw [F.lt, F.sub, le, wrap64 (by omega) (by omega)]; simp; omega
    cbv
    rw [hs]
    cbv
    exact congrArg some hr
  · have hT : szL szExt l left = l.foldl (fun a x => szExt x a) (left - l.length) := by unfold szL sz1; rw [if_neg hl]
    rw [hT]
    refine fix_fn (fn := ir197) tb_197 rfl rfl (by decide) rfl ?_; simp only [shutArgs, shutS, List.map_cons, List.map_nil, ir197, shut_in q0, List.head?_nil, reduceCtorEq, if_false, sExt, sHello, sAnswer, sEdit, sDeal, sBox, sDialed, sKnown]
    obtain ⟨v, hv⟩ : ∃ y_, y_ = left - l.length := ⟨_, rfl⟩
    rw [← hv]
    have u3 : 0 ≤ v := by omega
    have u4 : v ≤ 1048576 := by omega
    have u5 : l.length ≤ 1048576 := by omega
    obtain ⟨T, hT⟩ : ∃ y_, y_ = l.foldl (fun a x => szExt x a) v := ⟨_, rfl⟩
    rw [← hT]
    generalize hr : (⟨_, [], none⟩ : Ret) = r
    obtain ⟨ea, hea⟩ : ∃ y_, y_ = row fExt l := ⟨_, rfl⟩
    rw [← hea]
    intro add sub mul arith eq ne lt le gt ge neg conv mn mx not beq len at' ln bd cut app allS isNil mks set o hP F ho
    have le := F.len_at hea
    have e1 : sub .i64 left (len ea) = v := by unfold At at le; rw [F.sub, le, wrap64 (by omega) (by omega), hv]
    have hs : lt v 0 = false := by rw [F.lt, hv]; simp; omega
    cbv
    rw [e1, hs]
    cbv
    refine loop_ind hP (σ := List (Ext) × List (Ext) × Int × Int) (fun s => [(0, R ea .sh), (1, I s.2.2.1), (4, I 0), (5, I s.2.2.2)])
      (fun s => At s.2.2.2 s.2.1.length ∧ l = s.2.1 ++ s.1 ∧ 0 ≤ s.2.2.1 ∧ s.2.2.1 ≤ 1048576 ∧ s.1.foldl (fun a x => szExt x a) s.2.2.1 = T) (fun s => s.1.length) (l, [], v, 0) rfl ⟨rfl, rfl, u3, u4, hT.symm⟩ ?_
    rintro ⟨suf, pre, a, i⟩ ⟨hi, hl', ha0, ha1, hf⟩ ih
    simp only at hi hl' ha0 ha1 hf ih
    cbv
    cases suf with
    | nil =>
      rw [F.lt_f hi le (by simp [hl'])]; cbv
      simp only [List.foldl_nil] at hf
      rw [← hr, hf]
    | cons x suf =>
      rw [F.lt_t hi le (by simp [hl'])]; cbv
      rw [List.foldl_cons] at hf
      obtain ⟨e1, he1⟩ : ∃ y_, y_ = row fI x.body := ⟨_, rfl⟩
      obtain ⟨ix, hix⟩ : ∃ y_, y_ = pre.length * 2 := ⟨_, rfl⟩
      rw [show at' 2 ea i = some (ix, [.int .i64 x.tag, .row () e1]) by rw [hix, he1]; exact F.get hi hea hl' (fun _ => rfl) (by decide)]; cbv
      obtain ⟨a', ha'⟩ : ∃ y_, y_ = szExt x a := ⟨_, rfl⟩
      rw [← ha'] at hf
      have u1 : a' ≤ 1048576 := by rw [ha']; exact (szExt_Sz x).up ha1
      have u2 : -1 ≤ a' := by rw [ha']; exact (szExt_Sz x).lo _ ha1
      have c1 : o 319 [sExt x.tag e1 (.sp 0 1), I a] = some ⟨[I a'], [], none⟩ := by rw [ho, ha', he1]; exact ok319 x a (w.2 x (by rw [hl']; simp)) ha0 ha1 rfl
      rw [c1]; cbv
      refine both (fun c => ?_) (fun c => ?_) <;> rw [c] <;> cbv
      · simp only [F.lt, decide_eq_true_eq] at c
        rw [← hr, ← hf, szF_neg szExt_Sz suf a' (by omega)]
      · simp only [F.lt, decide_eq_false_iff_not] at c
        refine ih (suf, pre ++ [x], a', add .i64 i 1) ⟨at_len (F.inc hi (by simp [hl'] at u5; omega)) (by simp), by simp [hl'], by simp only; omega, u1, hf⟩ (by simp)

/- laws.szAnswer -/
theorem ok126 (x : Answer) (left : Int) (w : x.Fits) (h1 : 0 ≤ left) (h2 : left ≤ 1048576) {f0 : Fl} (q0 : inFl f0 = true) :
    fix Tb md 126 [sAnswer x.version (row fExt x.exts) f0, I left] = some ⟨[I (szAnswer x left)], [], none⟩ := by
  refine fix_fn (fn := ir126) tb_126 rfl rfl (by decide) rfl ?_; simp only [shutArgs, shutS, List.map_cons, List.map_nil, ir126, shut_in q0, List.head?_nil, reduceCtorEq, if_false, sExt, sHello, sAnswer, sEdit, sDeal, sBox, sDialed, sKnown]
  obtain ⟨v1, hv1⟩ : ∃ y_, y_ = szL szExt x.exts left := ⟨_, rfl⟩
  rw [show szAnswer x left = v1 by rw [hv1]; rfl]
  generalize hr : (⟨_, [], none⟩ : Ret) = r
  obtain ⟨e1, he1⟩ : ∃ y_, y_ = row fExt x.exts := ⟨_, rfl⟩
  rw [← he1]
  have g1 : v1 ≤ 1048576 := by rw [hv1]; exact (Sz.list szExt_Sz x.exts).up h2
  have l1 : -1 ≤ v1 := by rw [hv1]; exact (Sz.list szExt_Sz x.exts).lo _ h2
  unfold Answer.Fits at w
  intro add sub mul arith eq ne lt le gt ge neg conv mn mx not beq len at' ln bd cut app allS isNil mks set o hP F ho
  have c1 : o 197 [R e1 (.sp 0 0), I left] = some ⟨[I v1], [], none⟩ := by rw [ho, hv1, he1]; exact ok197 _ _ w.2 h1 h2 rfl
  cbv
  rw [c1]; cbv
  refine both (fun d1 => ?_) (fun d1 => ?_) <;> rw [d1] <;> cbv
  · clear hP c1 ho; simp only [F.lt, decide_eq_true_eq] at d1; clear F; rw [← hr, show v1 = -1 by omega]
  exact congrArg some hr

/- laws.toIntS -/
theorem ok76 (l : List Int) (hl : l.length ≤ 1099511627776) {f0 : Fl} (h0 : inFl f0 = true) : fix Tb md 76 [R (row fI l) f0] = some ⟨[R (row fI l) (.ow false)], [], none⟩ := by
  refine fix_fn (fn := ir76) tb_76 rfl rfl (by decide) rfl ?_; simp only [shutArgs, shutS, List.map_cons, List.map_nil, ir76, shut_in h0, List.head?_nil, reduceCtorEq, if_false, sExt, sHello, sAnswer, sEdit, sDeal, sBox, sDialed, sKnown]
  generalize hr : (⟨_, [], none⟩ : Ret) = r
  obtain ⟨e1, he1⟩ : ∃ y_, y_ = row fI l := ⟨_, rfl⟩
  rw [← he1] at hr ⊢
  intro add sub mul arith eq ne lt le gt ge neg conv mn mx not beq len at' ln bd cut app allS isNil mks set o hP F ho
  have la := F.len_at he1
  cbv
  obtain ⟨e2, he2⟩ : ∃ y_, y_ = row fI (List.replicate l.length 0) := ⟨_, rfl⟩
  rw [show mks [.int .i64 0] (len e1) (len e1) = some e2 by rw [F.mks, show len e1 = _ from la, he2]; exact row_mk (f := fI) (a := 0) rfl (by simp [fI]) hl]; cbv
  refine loop_ind hP (σ := List Int × List Int × List (List V) × Int) (fun s => [(0, R e1 .sh), (2, R [] .nl), (3, R s.2.2.1 (.ow false)), (4, I s.2.2.2)])
    (fun s => At s.2.2.2 s.2.1.length ∧ l = s.2.1 ++ s.1 ∧ s.2.2.1 = row fI (s.2.1 ++ List.replicate s.1.length 0)) (fun s => s.1.length) (l, [], e2, 0) rfl ⟨rfl, rfl, by simpa using he2⟩ ?_
  rintro ⟨suf, pre, eo, i⟩ ⟨hi, hl', heo⟩ ih
  simp only at hi hl' heo ih
  cbv
  cases suf with
  | nil =>
    rw [F.lt_f hi la (by simp [hl'])]; cbv
    rw [← hr, heo, he1, hl']; simp
  | cons x suf =>
    rw [F.lt_t hi la (by simp [hl'])]; cbv
    obtain ⟨ix, hix⟩ : ∃ y_, y_ = pre.length * 1 := ⟨_, rfl⟩
    rw [show at' 1 e1 i = some (ix, [.int .i64 x]) by rw [hix]; exact F.get hi he1 hl' (fun _ => rfl) (by decide)]; cbv
    rw [show at' 1 eo i = some (ix, [.int .i64 0]) by rw [hix]; exact F.get hi heo rfl (fun _ => rfl) (by decide)]; cbv
    obtain ⟨eo', heo'⟩ : ∃ y_, y_ = row fI (pre ++ x :: List.replicate suf.length 0) := ⟨_, rfl⟩
    rw [show set eo ix [.int .i64 x] = some eo' by rw [F.set, heo, hix, heo']; exact set_one (fun _ => rfl) rfl]; cbv
    refine ih (suf, pre ++ [x], eo', add .i64 i 1) ⟨at_len (F.inc hi (by simp [hl'] at hl; omega)) (by simp), by simp [hl'], by simp [heo']⟩ (by simp)

/- laws.toExt -/
theorem ok320 (x : Ext) (w : x.Mid) {f0 : Fl} (q0 : inFl f0 = true) :
    fix Tb md 320 [sExt x.tag (row fI x.body) f0] = some ⟨[sExt x.tag (row fI x.body) (.ow false)], [], none⟩ := by
  refine fix_fn (fn := ir320) tb_320 rfl rfl (by decide) rfl ?_; simp only [shutArgs, shutS, List.map_cons, List.map_nil, ir320, shut_in q0, List.head?_nil, reduceCtorEq, if_false, sExt, sHello, sAnswer, sEdit, sDeal, sBox, sDialed, sKnown]
  generalize hr : (⟨_, [], none⟩ : Ret) = r
  obtain ⟨e1, he1⟩ : ∃ y_, y_ = row fI x.body := ⟨_, rfl⟩
  rw [← he1] at hr ⊢
  unfold Ext.Mid at w
  intro add sub mul arith eq ne lt le gt ge neg conv mn mx not beq len at' ln bd cut app allS isNil mks set o hP F ho
  have c1 : o 76 [R e1 (.sp 0 0)] = some ⟨[R e1 (.ow false)], [], none⟩ := by rw [ho, he1]; exact ok76 _ (by have := w; omega) rfl
  cbv
  rw [c1]; cbv
  exact congrArg some hr

/- laws.toExtS -/
theorem ok199 (l : List (Ext)) (w : l.length ≤ 1073741824 ∧ ∀ y ∈ l, y.Mid) {f0 : Fl} (q0 : inFl f0 = true) :
    fix Tb md 199 [R (row fExt l) f0] = some ⟨[R (row fExt l) (.ow false)], [], none⟩ := by
  have w1 := w.1
  refine fix_fn (fn := ir199) tb_199 rfl rfl (by decide) rfl ?_; simp only [shutArgs, shutS, List.map_cons, List.map_nil, ir199, shut_in q0, List.head?_nil, reduceCtorEq, if_false, sExt, sHello, sAnswer, sEdit, sDeal, sBox, sDialed, sKnown]
  generalize hr : (⟨_, [], none⟩ : Ret) = r
  obtain ⟨ea, hea⟩ : ∃ y_, y_ = row fExt l := ⟨_, rfl⟩
  rw [← hea] at hr ⊢
  intro add sub mul arith eq ne lt le gt ge neg conv mn mx not beq len at' ln bd cut app allS isNil mks set o hP F ho
  have la := F.len_at hea
  cbv
  obtain ⟨e0, he0⟩ : ∃ y_, y_ = row fExt (List.replicate l.length (⟨0, []⟩ : Ext)) := ⟨_, rfl⟩
  rw [show mks [.int .i64 0, .row () []] (len ea) (len ea) = some e0 by rw [F.mks, show len ea = _ from la, he0]; exact row_mk (f := fExt) (a := (⟨0, []⟩ : Ext)) rfl (by simp [fExt]) (show l.length ≤ 1099511627776 by omega)]; cbv
  refine loop_ind hP (σ := List (Ext) × List (Ext) × List (List V) × Int) (fun s => [(0, R ea .sh), (2, R [] .nl), (3, R s.2.2.1 (.ow false)), (4, I s.2.2.2)])
    (fun s => At s.2.2.2 s.2.1.length ∧ l = s.2.1 ++ s.1 ∧ s.2.2.1 = row fExt (s.2.1 ++ List.replicate s.1.length (⟨0, []⟩ : Ext))) (fun s => s.1.length) (l, [], e0, 0) rfl ⟨rfl, rfl, by simpa using he0⟩ ?_
  rintro ⟨suf, pre, eo, i⟩ ⟨hi, hl', heo⟩ ih
  simp only at hi hl' heo ih
  cbv
  cases suf with
  | nil =>
    rw [F.lt_f hi la (by simp [hl'])]; cbv
    rw [← hr, heo, hea, hl']; simp
  | cons x suf =>
    rw [F.lt_t hi la (by simp [hl'])]; cbv
    obtain ⟨e1, he1⟩ : ∃ y_, y_ = row fI x.body := ⟨_, rfl⟩
    obtain ⟨ix, hix⟩ : ∃ y_, y_ = pre.length * 2 := ⟨_, rfl⟩
    rw [show at' 2 ea i = some (ix, [.int .i64 x.tag, .row () e1]) by rw [hix, he1]; exact F.get hi hea hl' (fun _ => rfl) (by decide)]; cbv
    have c1 : o 320 [sExt x.tag e1 (.sp 0 1)] = some ⟨[sExt x.tag e1 (.ow false)], [], none⟩ := by rw [ho, he1]; exact ok320 x (w.2 x (by rw [hl']; simp)) rfl
    rw [c1]; cbv
    rw [show at' 2 eo i = some (ix, [.int .i64 0, .row () []]) by rw [hix]; exact F.get hi heo rfl (fun _ => rfl) (by decide)]; cbv
    obtain ⟨eo', heo'⟩ : ∃ y_, y_ = row fExt (pre ++ x :: List.replicate suf.length (⟨0, []⟩ : Ext)) := ⟨_, rfl⟩
    rw [show set eo ix [.int .i64 x.tag, .row () e1] = some eo' by rw [F.set, heo, hix, heo', he1]; exact set_all (fun _ => rfl) rfl]; cbv
    refine ih (suf, pre ++ [x], eo', add .i64 i 1) ⟨at_len (F.inc hi (by simp [hl'] at w1; omega)) (by simp), by simp [hl'], by simp [heo']⟩ (by simp)

/- laws.toAnswer -/
theorem ok128 (x : Answer) (w : x.Mid) {f0 : Fl} (q0 : inFl f0 = true) :
    fix Tb md 128 [sAnswer x.version (row fExt x.exts) f0] = some ⟨[sAnswer x.version (row fExt x.exts) (.ow false)], [], none⟩ := by
  refine fix_fn (fn := ir128) tb_128 rfl rfl (by decide) rfl ?_; simp only [shutArgs, shutS, List.map_cons, List.map_nil, ir128, shut_in q0, List.head?_nil, reduceCtorEq, if_false, sExt, sHello, sAnswer, sEdit, sDeal, sBox, sDialed, sKnown]
  generalize hr : (⟨_, [], none⟩ : Ret) = r
  obtain ⟨e1, he1⟩ : ∃ y_, y_ = row fExt x.exts := ⟨_, rfl⟩
  rw [← he1] at hr ⊢
  unfold Answer.Mid at w
  intro add sub mul arith eq ne lt le gt ge neg conv mn mx not beq len at' ln bd cut app allS isNil mks set o hP F ho
  have c1 : o 199 [R e1 (.sp 0 0)] = some ⟨[R e1 (.ow false)], [], none⟩ := by rw [ho, he1]; exact ok199 _ w rfl
  cbv
  rw [c1]; cbv
  exact congrArg some hr

/- laws.eqIntS -/
theorem ok79 (a b : List Int) (hl : a.length ≤ 1099511627776) {f0 f1 : Fl} (h0 : inFl f0 = true) (h1 : inFl f1 = true) : fix Tb md 79 [R (row fI a) f0, R (row fI b) f1] = some ⟨[B (decide (a = b))], [], none⟩ := by
  refine fix_fn (fn := ir79) tb_79 rfl rfl (by decide) rfl ?_; simp only [shutArgs, shutS, List.map_cons, List.map_nil, ir79, shut_in h0, shut_in h1, List.head?_nil, reduceCtorEq, if_false, sExt, sHello, sAnswer, sEdit, sDeal, sBox, sDialed, sKnown]
  generalize hr : (⟨_, [], none⟩ : Ret) = r
  obtain ⟨ea, hea⟩ : ∃ y_, y_ = row fI a := ⟨_, rfl⟩
  obtain ⟨eb, heb⟩ : ∃ y_, y_ = row fI b := ⟨_, rfl⟩
  rw [← hea, ← heb]
  intro add sub mul arith eq ne lt le gt ge neg conv mn mx not beq len at' ln bd cut app allS isNil mks set o hP F ho
  have la := F.len_at hea
  have lb := F.len_at heb
  cbv
  by_cases hab : a.length = b.length
  · rw [F.ne_f (by unfold At at la lb; omega)]; cbv
    refine loop_ind hP (σ := List Int × List Int × List Int × Int) (fun s => [(0, R ea .sh), (1, R eb .sh), (4, B false), (5, I s.2.2.2)]) (fun s => At s.2.2.2 s.1.length ∧ a = s.1 ++ s.2.1 ∧ b = s.1 ++ s.2.2.1) (fun s => s.2.1.length) ([], a, b, 0) rfl ⟨rfl, rfl, rfl⟩ ?_
    rintro ⟨pre, sa, sb, i⟩ ⟨hi, ha, hb⟩ ih
    simp only at hi ha hb ih
    cbv
    have hlen : sa.length = sb.length := by simp [ha, hb] at hab; exact hab
    match sa, sb, hlen, ha, hb with
    | [], [], _, ha, hb =>
      rw [F.lt_f hi la (by simp [ha])]; cbv
      rw [← hr]; simp [ha, hb]
    | x :: sa, y :: sb, _, ha, hb =>
      rw [F.lt_t hi la (by simp [ha])]; cbv
      obtain ⟨ix, hix⟩ : ∃ y_, y_ = pre.length * 1 := ⟨_, rfl⟩
      rw [show at' 1 ea i = some (ix, [.int .i64 x]) by rw [hix]; exact F.get hi hea ha (fun _ => rfl) (by decide)]; cbv
      rw [show at' 1 eb i = some (ix, [.int .i64 y]) by rw [hix]; exact F.get hi heb hb (fun _ => rfl) (by decide)]; cbv
      by_cases hxy : x = y
      · rw [F.ne_f hxy]; cbv
        refine ih (pre ++ [x], sa, sb, add .i64 i 1) ⟨at_len (F.inc hi (by simp [ha] at hl; omega)) (by simp), by simp [ha], by simp [hb, hxy]⟩ (by simp)
      · rw [F.ne_t hxy]; cbv
        rw [← hr]; simp [ha, hb, hxy]
  · rw [F.ne_t (by unfold At at la lb; omega)]; cbv
    rw [← hr]
    simp
    intro e; exact hab (by rw [e])
theorem ok79t (a : List Int) (hl : a.length ≤ 1099511627776) {f0 f1 : Fl} (h0 : inFl f0 = true) (h1 : inFl f1 = true) : fix Tb md 79 [R (row fI a) f0, R (row fI a) f1] = some ⟨[B true], [], none⟩ := by simpa using ok79 a a hl h0 h1

/- laws.eqExt -/
theorem ok321 (x : Ext) (w : x.Mid) {f0 : Fl} (q0 : inFl f0 = true) {g0 : Fl} (p0 : inFl g0 = true) :
    fix Tb md 321 [sExt x.tag (row fI x.body) f0, sExt x.tag (row fI x.body) g0] = some ⟨[B true], [], none⟩ := by
  refine fix_fn (fn := ir321) tb_321 rfl rfl (by decide) rfl ?_; simp only [shutArgs, shutS, List.map_cons, List.map_nil, ir321, shut_in q0, shut_in p0, List.head?_nil, reduceCtorEq, if_false, sExt, sHello, sAnswer, sEdit, sDeal, sBox, sDialed, sKnown]
  generalize hr : (⟨_, [], none⟩ : Ret) = r
  obtain ⟨e1, he1⟩ : ∃ y_, y_ = row fI x.body := ⟨_, rfl⟩
  rw [← he1]
  unfold Ext.Mid at w
  intro add sub mul arith eq ne lt le gt ge neg conv mn mx not beq len at' ln bd cut app allS isNil mks set o hP F ho
  have c1 : o 79 [R e1 (.sp 0 0), R e1 (.sp 1 0)] = some ⟨[B true], [], none⟩ := by rw [ho, he1]; exact ok79t _ (by have := w; omega) rfl rfl
  cbv
  rw [F.ne_f rfl]; cbv
  rw [c1]; cbv
  rw [show not true = false by rw [F.not]; rfl]; cbv
  exact congrArg some hr

/- laws.eqExtS -/
theorem ok200 (l : List (Ext)) (w : l.length ≤ 1073741824 ∧ ∀ y ∈ l, y.Mid) {f0 f1 : Fl} (q0 : inFl f0 = true) (q1 : inFl f1 = true) :
    fix Tb md 200 [R (row fExt l) f0, R (row fExt l) f1] = some ⟨[B true], [], none⟩ := by
  have w1 := w.1
  refine fix_fn (fn := ir200) tb_200 rfl rfl (by decide) rfl ?_; simp only [shutArgs, shutS, List.map_cons, List.map_nil, ir200, shut_in q0, shut_in q1, List.head?_nil, reduceCtorEq, if_false, sExt, sHello, sAnswer, sEdit, sDeal, sBox, sDialed, sKnown]
  generalize hr : (⟨_, [], none⟩ : Ret) = r
  obtain ⟨ea, hea⟩ : ∃ y_, y_ = row fExt l := ⟨_, rfl⟩
  rw [← hea]
  intro add sub mul arith eq ne lt le gt ge neg conv mn mx not beq len at' ln bd cut app allS isNil mks set o hP F ho
  have la := F.len_at hea
  cbv
  rw [F.ne_f rfl]; cbv
  refine loop_ind hP (σ := List (Ext) × List (Ext) × Int) (fun s => [(0, R ea .sh), (1, R ea .sh), (4, B false), (5, I s.2.2)])
    (fun s => At s.2.2 s.2.1.length ∧ l = s.2.1 ++ s.1) (fun s => s.1.length) (l, [], 0) rfl ⟨rfl, rfl⟩ ?_
  rintro ⟨suf, pre, i⟩ ⟨hi, hl'⟩ ih
  simp only at hi hl' ih
  cbv
  cases suf with
  | nil =>
    rw [F.lt_f hi la (by simp [hl'])]; cbv
    exact congrArg some hr
  | cons x suf =>
    rw [F.lt_t hi la (by simp [hl'])]; cbv
    obtain ⟨e1, he1⟩ : ∃ y_, y_ = row fI x.body := ⟨_, rfl⟩
    obtain ⟨ix, hix⟩ : ∃ y_, y_ = pre.length * 2 := ⟨_, rfl⟩
    have a1 : at' 2 ea i = some (ix, [.int .i64 x.tag, .row () e1]) := by rw [hix, he1]; exact F.get hi hea hl' (fun _ => rfl) (by decide)
    rw [a1]; cbv
    try (rw [a1]; cbv)
    have c1 : o 321 [sExt x.tag e1 (.sp 0 1), sExt x.tag e1 (.sp 1 1)] = some ⟨[B true], [], none⟩ := by rw [ho, he1]; exact ok321 x (w.2 x (by rw [hl']; simp)) rfl rfl
    rw [c1]; cbv
    rw [show not true = false by rw [F.not]; rfl]; cbv
    refine ih (suf, pre ++ [x], add .i64 i 1) ⟨at_len (F.inc hi (by simp [hl'] at w1; omega)) (by simp), by simp [hl']⟩ (by simp)

/- laws.eqAnswer -/
theorem ok129 (x : Answer) (w : x.Mid) {f0 : Fl} (q0 : inFl f0 = true) {g0 : Fl} (p0 : inFl g0 = true) :
    fix Tb md 129 [sAnswer x.version (row fExt x.exts) f0, sAnswer x.version (row fExt x.exts) g0] = some ⟨[B true], [], none⟩ := by
  refine fix_fn (fn := ir129) tb_129 rfl rfl (by decide) rfl ?_; simp only [shutArgs, shutS, List.map_cons, List.map_nil, ir129, shut_in q0, shut_in p0, List.head?_nil, reduceCtorEq, if_false, sExt, sHello, sAnswer, sEdit, sDeal, sBox, sDialed, sKnown]
  generalize hr : (⟨_, [], none⟩ : Ret) = r
  obtain ⟨e1, he1⟩ : ∃ y_, y_ = row fExt x.exts := ⟨_, rfl⟩
  rw [← he1]
  unfold Answer.Mid at w
  intro add sub mul arith eq ne lt le gt ge neg conv mn mx not beq len at' ln bd cut app allS isNil mks set o hP F ho
  have c1 : o 200 [R e1 (.sp 0 0), R e1 (.sp 1 0)] = some ⟨[B true], [], none⟩ := by rw [ho, he1]; exact ok200 _ w rfl rfl
  cbv
  rw [F.ne_f rfl]; cbv
  rw [c1]; cbv
  rw [show not true = false by rw [F.not]; rfl]; cbv
  exact congrArg some hr

/- spec.l1In -/
theorem ok230 (n lo hi : Int) : fix Tb md 230 [I n, I lo, I hi] = some ⟨[B (inR n lo hi)], [], none⟩ := by
  refine fix_fn (fn := ir230) tb_230 rfl rfl (by decide) rfl ?_; simp only [shutArgs, shutS, List.map_cons, List.map_nil, ir230, List.head?_nil, reduceCtorEq, if_false, sExt, sHello, sAnswer, sEdit, sDeal, sBox, sDialed, sKnown]
  generalize hr : (⟨_, [], none⟩ : Ret) = r
  intro add sub mul arith eq ne lt le gt ge neg conv mn mx not beq len at' ln bd cut app allS isNil mks set o hP F ho
  cbv
  repeat' (refine both (fun c => ?_) (fun c => ?_) <;> (try rw [c]) <;> (try cbv))
  all_goals (simp only [F.le, F.ge, F.lt, F.gt] at *; subst hr; (try simp_all [inR]) <;> (try omega))

/- spec.l9Byte -/
theorem ok231 (l : List Int) (hl : l.length ≤ 1099511627776) {f0 : Fl} (h0 : inFl f0 = true) : fix Tb md 231 [R (row fI l) f0] = some ⟨[B (bytes l)], [], none⟩ := by
  refine fix_fn (fn := ir231) tb_231 rfl rfl (by decide) rfl ?_; simp only [shutArgs, shutS, List.map_cons, List.map_nil, ir231, shut_in h0, List.head?_nil, reduceCtorEq, if_false, sExt, sHello, sAnswer, sEdit, sDeal, sBox, sDialed, sKnown]
  generalize hr : (⟨_, [], none⟩ : Ret) = r
  obtain ⟨ea, hea⟩ : ∃ y_, y_ = row fI l := ⟨_, rfl⟩
  rw [← hea]
  intro add sub mul arith eq ne lt le gt ge neg conv mn mx not beq len at' ln bd cut app allS isNil mks set o hP F ho
  have la := F.len_at hea
  cbv
  refine loop_ind hP (σ := List Int × List Int × Int) (fun s => [(0, R ea .sh), (2, B false), (3, I s.2.2)]) (fun s => At s.2.2 s.1.length ∧ l = s.1 ++ s.2.1 ∧ bytes s.1 = true) (fun s => s.2.1.length) ([], l, 0) rfl ⟨rfl, rfl, rfl⟩ ?_
  rintro ⟨pre, suf, i⟩ ⟨hi, hl', hb⟩ ih
  simp only at hi hl' hb ih
  cbv
  cases suf with
  | nil =>
    rw [F.lt_f hi la (by simp [hl'])]; cbv
    rw [← hr, hl']; simp [hb]
  | cons x suf =>
    rw [F.lt_t hi la (by simp [hl'])]; cbv
    obtain ⟨ix, hix⟩ : ∃ y_, y_ = pre.length * 1 := ⟨_, rfl⟩
    rw [show at' 1 ea i = some (ix, [.int .i64 x]) by rw [hix]; exact F.get hi hea hl' (fun _ => rfl) (by decide)]; cbv
    obtain ⟨v, hv⟩ : ∃ y_, y_ = inR x 0 255 := ⟨_, rfl⟩
    rw [show o 230 [I x, I 0, I 255] = some ⟨[B v], [], none⟩ by rw [ho, hv]; exact ok230 x 0 255]; cbv
    refine both (fun c => ?_) (fun c => ?_) <;> rw [c] <;> cbv
    · rw [← hr, hl']
      rw [F.not] at c
      simp [bytes] at *
      simp_all
    · rw [F.not] at c
      simp at c
      refine ih (pre ++ [x], suf, add .i64 i 1) ⟨at_len (F.inc hi (by simp [hl'] at hl; omega)) (by simp), by simp [hl'], ?_⟩ (by simp)
      simp [bytes] at *
      simp_all

def ixOf {α : Type} (p : α → Bool) : List α → Int → Int
  | [], _ => -1
  | x :: l, i => if p x = true then i else ixOf p l (i + 1)
theorem ixOf_ge {α : Type} (p : α → Bool) : ∀ (l : List α) (i : Int), 0 ≤ i → decide (0 ≤ ixOf p l i) = l.any p
  | [], i, h => by simp [ixOf]
  | x :: l, i, h => by
    unfold ixOf
    rw [List.any_cons]
    by_cases hx : p x = true
    · rw [if_pos hx, hx]; simpa using h
    · rw [if_neg hx, ixOf_ge p l (i + 1) (by omega)]; simp at hx; simp [hx]
theorem ixOf_none {α : Type} {p : α → Bool} : ∀ {l : List α} {i : Int}, l.any p = false → ixOf p l i = -1
  | [], i, _ => rfl
  | x :: l, i, h => by
    rw [List.any_cons, Bool.or_eq_false_iff] at h
    unfold ixOf
    rw [if_neg (by rw [h.1]; decide), ixOf_none h.2]

/- spec.ExtOf -/
def tagP (t : Int) (e : Ext) : Bool := decide (e.tag = t)
def extOf (l : List Ext) (t : Int) : Int := ixOf (tagP t) l 0
theorem ixOf_pre {α : Type} {p : α → Bool} : ∀ {pre : List α} {x : α} {suf : List α} {i : Int}, p x = true → (pre.any p = false → ixOf p (pre ++ x :: suf) i = i + (pre.length : Int)) ∧ (pre.any p = true → ixOf p (pre ++ x :: suf) i < i + (pre.length : Int))
  | [], x, suf, i, hx => by simp [ixOf, hx]
  | y :: pre, x, suf, i, hx => by
    obtain ⟨h1, h2⟩ := ixOf_pre (pre := pre) (suf := suf) (i := i + 1) hx
    rw [List.cons_append, List.any_cons]
    unfold ixOf
    by_cases hy : p y = true
    · rw [if_pos hy, hy]; simp; omega
    · rw [if_neg hy]; simp at hy; rw [hy, Bool.false_or]
      constructor
      · intro q; rw [h1 q]; simp; omega
      · intro q; have := h2 q; simp; omega
theorem ixOf_lt {α : Type} {p : α → Bool} {pre : List α} {x : α} {suf : List α} {i : Int} (hx : p x = true) (hi : At i pre.length) : decide (ixOf p (pre ++ x :: suf) 0 < i) = pre.any p := by
  unfold At at hi
  obtain ⟨h1, h2⟩ := ixOf_pre (pre := pre) (suf := suf) (i := 0) hx
  cases h : pre.any p with
  | false => rw [h1 h, hi]; simp
  | true => have := h2 h; rw [hi]; simp; omega
theorem ok286 (l : List Ext) (t : Int) (hl : l.length ≤ 1099511627776) {f0 : Fl} (h0 : inFl f0 = true) : fix Tb md 286 [R (row fExt l) f0, I t] = some ⟨[I (extOf l t)], [], none⟩ := by
  obtain ⟨T, hT⟩ : ∃ y_, y_ = extOf l t := ⟨_, rfl⟩
  rw [← hT]
  generalize hr : (⟨_, [], none⟩ : Ret) = r
  obtain ⟨ea, hea⟩ : ∃ y_, y_ = row fExt l := ⟨_, rfl⟩
  rw [← hea]
  refine fix_fn2 (fn := ir286) tb_286 rfl rfl (by decide) rfl ?_; intro Q hQ; simp only [shutArgs, shutS, List.map_cons, List.map_nil, ir286, shut_in h0, List.head?_nil, reduceCtorEq, if_false, sExt, sHello, sAnswer, sEdit, sDeal, sBox, sDialed, sKnown]
  intro add sub mul arith eq ne lt le gt ge neg conv mn mx not beq len at' ln bd cut app allS isNil mks set o hP F ho
  have la := F.len_at hea
  cbv
  refine loop_ind2 hP (σ := List Ext × List Ext × Int) (fun s => [(0, R ea .sh), (1, I t), (4, I 0), (5, I s.2.2)]) (fun s => At s.2.2 s.2.1.length ∧ l = s.2.1 ++ s.1 ∧ (s.2.1.any (tagP t)) = false) (fun s => s.1.length) (l, [], 0) rfl ⟨rfl, rfl, rfl⟩ ?_
  intro c1 Q1 hc1 hQ1
  rintro ⟨suf, pre, i⟩ ⟨hi, hl', hb⟩ ih
  simp only at hi hl' hb ih
  cbv
  cases suf with
  | nil =>
    rw [F.lt_f hi la (by simp [hl'])]; cbv
    rw [hQ1]; cbv
    rw [hQ]; cbv
    rw [← hr, hT, show extOf l t = -1 from ixOf_none (by rw [hl', List.append_nil]; exact hb)]
  | cons x suf =>
    obtain ⟨v, hv⟩ : ∃ y_, y_ = tagP t x := ⟨_, rfl⟩
    have hT' : v = true → T = i := fun q => by
      rw [hT, hl']; unfold At at hi
      rw [show extOf (pre ++ x :: suf) t = 0 + (pre.length : Int) from (ixOf_pre (hv ▸ q)).1 hb, hi]; simp
    rw [F.lt_t hi la (by simp [hl'])]; cbv
    obtain ⟨ix, hix⟩ : ∃ y_, y_ = pre.length * 2 := ⟨_, rfl⟩
    obtain ⟨e1, he1⟩ : ∃ y_, y_ = row fI x.body := ⟨_, rfl⟩
    rw [show at' 2 ea i = some (ix, [.int .i64 x.tag, .row () e1]) by rw [hix, he1]; exact F.get hi hea hl' (fun _ => rfl) (by decide)]; cbv
    rw [show eq x.tag t = v by rw [F.eq, hv]; rfl]; cbv
    refine both (fun d => ?_) (fun d => ?_) <;> rw [d] <;> cbv
    · rw [hQ1]; cbv
      rw [hQ]; cbv
      rw [← hr, hT' d]
    · refine ih (suf, pre ++ [x], add .i64 i 1) ⟨at_len (F.inc hi (by simp [hl'] at hl; omega)) (by simp), by simp [hl'], ?_⟩ (by simp)
      simp only
      rw [List.any_append, hb, List.any_cons, ← hv, d]; rfl

/- spec.AreExts -/
def exOk : List Ext → List Ext → Bool
  | _, [] => true
  | pre, x :: suf => inR x.tag 0 255 && !decide (4 < x.body.length) && bytes x.body && !(pre.any (tagP x.tag)) && exOk (pre ++ [x]) suf
def areEx (l : List Ext) : Bool := exOk [] l && decide (l.length ≤ 6)
theorem ok271 (l : List Ext) (hl : l.length ≤ 1099511627776) (w : ∀ y ∈ l, y.body.length ≤ 1099511627776) {f0 : Fl} (h0 : inFl f0 = true) : fix Tb md 271 [R (row fExt l) f0] = some ⟨[B (areEx l)], [], none⟩ := by
  obtain ⟨T, hT⟩ : ∃ y_, y_ = exOk [] l := ⟨_, rfl⟩
  rw [show areEx l = (T && decide (l.length ≤ 6)) by rw [hT]; rfl]
  generalize hr : (⟨_, [], none⟩ : Ret) = r
  obtain ⟨ea, hea⟩ : ∃ y_, y_ = row fExt l := ⟨_, rfl⟩
  rw [← hea]
  refine fix_fn2 (fn := ir271) tb_271 rfl rfl (by decide) rfl ?_; intro Q hQ; simp only [shutArgs, shutS, List.map_cons, List.map_nil, ir271, shut_in h0, List.head?_nil, reduceCtorEq, if_false, sExt, sHello, sAnswer, sEdit, sDeal, sBox, sDialed, sKnown]
  intro add sub mul arith eq ne lt le gt ge neg conv mn mx not beq len at' ln bd cut app allS isNil mks set o hP F ho
  have la := F.len_at hea
  have h6 : le (len ea) 6 = decide (l.length ≤ 6) := F.le_n la rfl
  cbv
  refine loop_ind2 hP (σ := List Ext × List Ext × Int) (fun s => [(0, R ea .sh), (2, B false), (3, I s.2.2)]) (fun s => At s.2.2 s.2.1.length ∧ l = s.2.1 ++ s.1 ∧ exOk s.2.1 s.1 = T) (fun s => s.1.length) (l, [], 0) rfl ⟨rfl, rfl, hT.symm⟩ ?_
  intro c1 Q1 hc1 hQ1
  rintro ⟨suf, pre, i⟩ ⟨hi, hl', hb⟩ ih
  simp only at hi hl' hb ih
  cbv
  cases suf with
  | nil =>
    rw [F.lt_f hi la (by simp [hl'])]; cbv
    rw [hQ1]; cbv
    rw [hQ]; cbv
    rw [h6, ← hr, ← hb]; rfl
  | cons x suf =>
    obtain ⟨ix, hix⟩ : ∃ y_, y_ = pre.length * 2 := ⟨_, rfl⟩
    obtain ⟨e1, he1⟩ : ∃ y_, y_ = row fI x.body := ⟨_, rfl⟩
    have l1 := F.len_at he1
    have hx := w x (by rw [hl']; simp)
    have p0 : at' 2 ea i = some (ix, [.int .i64 x.tag, .row () e1]) := by rw [hix, he1]; exact F.get hi hea hl' (fun _ => rfl) (by decide)
    obtain ⟨b1, hb1⟩ : ∃ y_, y_ = inR x.tag 0 255 := ⟨_, rfl⟩
    obtain ⟨b2, hb2⟩ : ∃ y_, y_ = decide (4 < x.body.length) := ⟨_, rfl⟩
    obtain ⟨b3, hb3⟩ : ∃ y_, y_ = bytes x.body := ⟨_, rfl⟩
    obtain ⟨b4, hb4⟩ : ∃ y_, y_ = pre.any (tagP x.tag) := ⟨_, rfl⟩
    obtain ⟨v, hv⟩ : ∃ y_, y_ = extOf l x.tag := ⟨_, rfl⟩
    have g4 : gt (len e1) 4 = b2 := by rw [hb2]; exact F.gt_n l1 rfl
    have c1 : o 230 [I x.tag, I 0, I 255] = some ⟨[B b1], [], none⟩ := by rw [ho, hb1]; exact ok230 ..
    have c3 : o 231 [R e1 (.sp 0 0)] = some ⟨[B b3], [], none⟩ := by rw [ho, hb3, he1]; exact ok231 _ hx rfl
    have c4 : o 286 [R ea (.sp 0 0), I x.tag] = some ⟨[I v], [], none⟩ := by rw [ho, hv, hea]; exact ok286 _ _ hl rfl
    have g5 : lt v i = b4 := by rw [F.lt, hv, hb4, hl']; exact ixOf_lt (by simp [tagP]) hi
    have hT' : T = (b1 && !b2 && b3 && !b4 && exOk (pre ++ [x]) suf) := by rw [← hb, hb1, hb2, hb3, hb4]; rfl
    rw [F.lt_t hi la (by simp [hl'])]; cbv
    rw [p0]; cbv
    rw [c1]; cbv
    refine both (fun d1 => ?_) (fun d1 => ?_) <;> rw [d1] <;> cbv
    · rw [hQ1]; cbv
      rw [hQ]; cbv
      rw [← hr, show T = false by rw [hT', F.not_t d1]; rfl]; rfl
    rw [p0]; cbv
    rw [g4]; cbv
    refine both (fun d2 => ?_) (fun d2 => ?_) <;> rw [d2] <;> cbv
    · rw [hQ1]; cbv
      rw [hQ]; cbv
      rw [← hr, show T = false by rw [hT', d2]; simp]; rfl
    rw [p0]; cbv
    rw [c3]; cbv
    refine both (fun d3 => ?_) (fun d3 => ?_) <;> rw [d3] <;> cbv
    · rw [hQ1]; cbv
      rw [hQ]; cbv
      rw [← hr, show T = false by rw [hT', F.not_t d3]; simp]; rfl
    rw [p0]; cbv
    rw [c4]; cbv
    rw [g5]; cbv
    refine both (fun d4 => ?_) (fun d4 => ?_) <;> rw [d4] <;> cbv
    · rw [hQ1]; cbv
      rw [hQ]; cbv
      rw [← hr, show T = false by rw [hT', d4]; simp]; rfl
    refine ih (suf, pre ++ [x], add .i64 i 1) ⟨at_len (F.inc hi (by simp [hl'] at hl; omega)) (by simp), by simp [hl'], ?_⟩ (by simp)
    rw [hT', F.not_f d1, d2, F.not_f d3, d4]; simp

/- spec.IsAnswer -/
def isAns (v : Int) (l : List Ext) : Bool := inR v 1 9 && areEx l
theorem ok127 (v : Int) (l : List Ext) (hl : l.length ≤ 1099511627776) (w : ∀ y ∈ l, y.body.length ≤ 1099511627776) {f0 : Fl} (h0 : inFl f0 = true) : fix Tb md 127 [sAnswer v (row fExt l) f0] = some ⟨[B (isAns v l)], [], none⟩ := by
  obtain ⟨a, ha⟩ : ∃ y_, y_ = inR v 1 9 := ⟨_, rfl⟩
  obtain ⟨b, hb⟩ : ∃ y_, y_ = areEx l := ⟨_, rfl⟩
  rw [show isAns v l = (a && b) by rw [ha, hb]; rfl]
  generalize hr : (⟨_, [], none⟩ : Ret) = r
  obtain ⟨ea, hea⟩ : ∃ y_, y_ = row fExt l := ⟨_, rfl⟩
  rw [← hea]
  refine fix_fn2 (fn := ir127) tb_127 rfl rfl (by decide) rfl ?_; intro Q hQ; simp only [shutArgs, shutS, List.map_cons, List.map_nil, ir127, shut_in h0, List.head?_nil, reduceCtorEq, if_false, sExt, sHello, sAnswer, sEdit, sDeal, sBox, sDialed, sKnown]
  intro add sub mul arith eq ne lt le gt ge neg conv mn mx not beq len at' ln bd cut app allS isNil mks set o hP F ho
  have c1 : o 230 [I v, I 1, I 9] = some ⟨[B a], [], none⟩ := by rw [ho, ha]; exact ok230 ..
  have c2 : o 271 [R ea (.sp 0 0)] = some ⟨[B b], [], none⟩ := by rw [ho, hb, hea]; exact ok271 _ hl w rfl
  cbv
  rw [c1]; cbv
  refine both (fun d1 => ?_) (fun d1 => ?_) <;> rw [d1] <;> cbv
  · rw [c2]; cbv
    rw [hQ]; cbv
    rw [← hr, d1]; rfl
  · rw [hQ]; cbv
    rw [← hr, d1]; rfl

/- spec.AreVersions -/
def verGo : List Int → List Int → Bool
  | _, [] => true
  | pre, x :: suf => inR x 1 9 && (match pre.getLast? with | none => true | some y => !decide (x ≤ y)) && verGo (pre ++ [x]) suf
def areVer (l : List Int) : Bool := verGo [] l && decide (0 < l.length)
theorem ok257 (l : List Int) (hl : l.length ≤ 1099511627776) {f0 : Fl} (h0 : inFl f0 = true) : fix Tb md 257 [R (row fI l) f0] = some ⟨[B (areVer l)], [], none⟩ := by
  obtain ⟨T, hT⟩ : ∃ y_, y_ = verGo [] l := ⟨_, rfl⟩
  rw [show areVer l = (T && decide (0 < l.length)) by rw [hT]; rfl]
  generalize hr : (⟨_, [], none⟩ : Ret) = r
  obtain ⟨ea, hea⟩ : ∃ y_, y_ = row fI l := ⟨_, rfl⟩
  rw [← hea]
  refine fix_fn2 (fn := ir257) tb_257 rfl rfl (by decide) rfl ?_; intro Q hQ; simp only [shutArgs, shutS, List.map_cons, List.map_nil, ir257, shut_in h0, List.head?_nil, reduceCtorEq, if_false, sExt, sHello, sAnswer, sEdit, sDeal, sBox, sDialed, sKnown]
  intro add sub mul arith eq ne lt le gt ge neg conv mn mx not beq len at' ln bd cut app allS isNil mks set o hP F ho
  have la := F.len_at hea
  have h6 : gt (len ea) 0 = decide (0 < l.length) := F.gt_n la rfl
  cbv
  refine loop_ind2 hP (σ := List Int × List Int × Int) (fun s => [(0, R ea .sh), (2, B false), (3, I s.2.2)]) (fun s => At s.2.2 s.2.1.length ∧ l = s.2.1 ++ s.1 ∧ verGo s.2.1 s.1 = T) (fun s => s.1.length) (l, [], 0) rfl ⟨rfl, rfl, hT.symm⟩ ?_
  intro c1 Q1 hc1 hQ1
  rintro ⟨suf, pre, i⟩ ⟨hi, hl', hb⟩ ih
  simp only at hi hl' hb ih
  cbv
  cases suf with
  | nil =>
    rw [F.lt_f hi la (by simp [hl'])]; cbv
    rw [hQ1]; cbv
    rw [hQ]; cbv
    rw [h6, ← hr, ← hb]; rfl
  | cons x suf =>
    obtain ⟨ix, hix⟩ : ∃ y_, y_ = pre.length * 1 := ⟨_, rfl⟩
    have hpre : pre.length ≤ 1099511627776 := by rw [hl'] at hl; simp at hl; omega
    have p0 : at' 1 ea i = some (ix, [.int .i64 x]) := by rw [hix]; exact F.get hi hea hl' (fun _ => rfl) (by decide)
    obtain ⟨b1, hb1⟩ : ∃ y_, y_ = inR x 1 9 := ⟨_, rfl⟩
    have c1 : o 230 [I x, I 1, I 9] = some ⟨[B b1], [], none⟩ := by rw [ho, hb1]; exact ok230 ..
    have hv0 : verGo pre (x :: suf) = (b1 && (match pre.getLast? with | none => true | some y => !decide (x ≤ y)) && verGo (pre ++ [x]) suf) := by rw [hb1]; rfl
    rw [hv0] at hb
    have hi' : At (add .i64 i 1) (pre ++ [x]).length := at_len (F.inc hi (by omega)) (by simp)
    have hl2 : l = (pre ++ [x]) ++ suf := by rw [hl']; simp
    have hg0 : gt i 0 = decide (0 < pre.length) := F.gt_n hi rfl
    rw [F.lt_t hi la (by simp [hl'])]; cbv
    rw [p0]; cbv
    rw [c1]; cbv
    refine both (fun d1 => ?_) (fun d1 => ?_) <;> rw [d1] <;> cbv
    · rw [hQ1]; cbv
      rw [hQ]; cbv
      rw [← hr, show T = false by rw [← hb, F.not_t d1]; rfl]; rfl
    rw [F.not_f d1, Bool.true_and] at hb
    rcases List.eq_nil_or_concat pre with hp | ⟨p', y, hp⟩
    · rw [show gt i 0 = false by rw [hg0, hp]; rfl]; cbv
      refine ih (suf, pre ++ [x], add .i64 i 1) ⟨hi', hl2, ?_⟩ (by simp)
      simp only
      rw [← hb, hp]; rfl
    · rw [show gt i 0 = true by rw [hg0, hp]; simp]; cbv
      obtain ⟨iy, hiy⟩ : ∃ y_, y_ = p'.length * 1 := ⟨_, rfl⟩
      have hi2 : At (sub .i64 i 1) p'.length := by unfold At at hi ⊢; rw [hp] at hi; simp at hi; rw [F.sub, hi, wrap64 (by omega) (by rw [hp] at hpre; simp at hpre; omega)]; omega
      rw [show at' 1 ea (sub .i64 i 1) = some (iy, [.int .i64 y]) by rw [hiy]; exact F.get hi2 hea (show l = p' ++ y :: (x :: suf) by rw [hl', hp]; simp) (fun _ => rfl) (by decide)]; cbv
      rw [p0]; cbv
      obtain ⟨u, hu⟩ : ∃ y_, y_ = decide (x ≤ y) := ⟨_, rfl⟩
      rw [show ge y x = u by rw [F.ge, hu]]; cbv
      have hgl : pre.getLast? = some y := by rw [hp]; simp
      rw [hgl] at hb
      simp only at hb
      rw [← hu] at hb
      refine both (fun d3 => ?_) (fun d3 => ?_) <;> rw [d3] <;> cbv
      · rw [hQ1]; cbv
        rw [hQ]; cbv
        rw [← hr, show T = false by rw [← hb, d3]; rfl]; rfl
      · refine ih (suf, pre ++ [x], add .i64 i 1) ⟨hi', hl2, ?_⟩ (by simp)
        rw [← hb, d3]; simp

/- spec.IsHello -/
def isHel (h : Hello) : Bool := areVer h.versions && areEx h.exts
theorem ok142 (h : Hello) (hv : h.versions.length ≤ 1099511627776) (hl : h.exts.length ≤ 1099511627776) (w : ∀ y ∈ h.exts, y.body.length ≤ 1099511627776) {f0 f1 : Fl} (h0 : inFl f0 = true) (h1 : inFl f1 = true) : fix Tb md 142 [sHello (row fI h.versions) (row fExt h.exts) f0 f1] = some ⟨[B (isHel h)], [], none⟩ := by
  obtain ⟨a, ha⟩ : ∃ y_, y_ = areVer h.versions := ⟨_, rfl⟩
  obtain ⟨b, hb⟩ : ∃ y_, y_ = areEx h.exts := ⟨_, rfl⟩
  rw [show isHel h = (a && b) by rw [ha, hb]; rfl]
  generalize hr : (⟨_, [], none⟩ : Ret) = r
  obtain ⟨ea, hea⟩ : ∃ y_, y_ = row fI h.versions := ⟨_, rfl⟩
  obtain ⟨eb, heb⟩ : ∃ y_, y_ = row fExt h.exts := ⟨_, rfl⟩
  rw [← hea, ← heb]
  refine fix_fn2 (fn := ir142) tb_142 rfl rfl (by decide) rfl ?_; intro Q hQ; simp only [shutArgs, shutS, List.map_cons, List.map_nil, ir142, shut_in h0, shut_in h1, List.head?_nil, reduceCtorEq, if_false, sExt, sHello, sAnswer, sEdit, sDeal, sBox, sDialed, sKnown]
  intro add sub mul arith eq ne lt le gt ge neg conv mn mx not beq len at' ln bd cut app allS isNil mks set o hP F ho
  have c1 : o 257 [R ea (.sp 0 0)] = some ⟨[B a], [], none⟩ := by rw [ho, ha, hea]; exact ok257 _ hv rfl
  have c2 : o 271 [R eb (.sp 0 0)] = some ⟨[B b], [], none⟩ := by rw [ho, hb, heb]; exact ok271 _ hl w rfl
  cbv
  rw [c1]; cbv
  refine both (fun d1 => ?_) (fun d1 => ?_) <;> rw [d1] <;> cbv
  · rw [c2]; cbv
    rw [hQ]; cbv
    rw [← hr, d1]; rfl
  · rw [hQ]; cbv
    rw [← hr, d1]; rfl

def sel {α β : Type} (P : α → Bool) (g : α → β) (l : List α) : List β := (l.filter P).map g
theorem sel_t {α β : Type} {P : α → Bool} {g : α → β} {a : List α} {x : α} (h : P x = true) : sel P g (a ++ [x]) = sel P g a ++ [g x] := by unfold sel; rw [List.filter_append, List.filter_cons, h]; simp
theorem sel_f {α β : Type} {P : α → Bool} {g : α → β} {a : List α} {x : α} (h : P x = false) : sel P g (a ++ [x]) = sel P g a := by unfold sel; rw [List.filter_append, List.filter_cons, h]; simp
theorem sel_len {α β : Type} {P : α → Bool} {g : α → β} {a : List α} : (sel P g a).length ≤ a.length := by unfold sel; rw [List.length_map]; exact List.length_filter_le _ _
def hasI (l : List Int) (n : Int) : Bool := l.any fun y => decide (y = n)
def idE (e : Ext) : Ext := e
def idI (n : Int) : Int := n
theorem sel_idE {P : Ext → Bool} {l : List Ext} : sel P idE l = l.filter P := by unfold sel idE; simp
theorem sel_idI {P : Int → Bool} {l : List Int} : sel P idI l = l.filter P := by unfold sel idI; simp

/- spec.l9Has -/
theorem ok285 (l : List Int) (n : Int) (hl : l.length ≤ 1099511627776) {f0 : Fl} (h0 : inFl f0 = true) : fix Tb md 285 [R (row fI l) f0, I n] = some ⟨[B (hasI l n)], [], none⟩ := by
  obtain ⟨T, hT⟩ : ∃ y_, y_ = hasI l n := ⟨_, rfl⟩
  rw [← hT]
  generalize hr : (⟨_, [], none⟩ : Ret) = r
  obtain ⟨ea, hea⟩ : ∃ y_, y_ = row fI l := ⟨_, rfl⟩
  rw [← hea]
  refine fix_fn2 (fn := ir285) tb_285 rfl rfl (by decide) rfl ?_; intro Q hQ; simp only [shutArgs, shutS, List.map_cons, List.map_nil, ir285, shut_in h0, List.head?_nil, reduceCtorEq, if_false, sExt, sHello, sAnswer, sEdit, sDeal, sBox, sDialed, sKnown]
  intro add sub mul arith eq ne lt le gt ge neg conv mn mx not beq len at' ln bd cut app allS isNil mks set o hP F ho
  have la := F.len_at hea
  cbv
  refine loop_ind2 hP (σ := List Int × List Int × Int) (fun s => [(0, R ea .sh), (1, I n), (4, B false), (5, I s.2.2)]) (fun s => At s.2.2 s.2.1.length ∧ l = s.2.1 ++ s.1 ∧ hasI s.1 n = T) (fun s => s.1.length) (l, [], 0) rfl ⟨rfl, rfl, hT.symm⟩ ?_
  intro c1 Q1 hc1 hQ1
  rintro ⟨suf, pre, i⟩ ⟨hi, hl', hb⟩ ih
  simp only at hi hl' hb ih
  cbv
  cases suf with
  | nil =>
    rw [F.lt_f hi la (by simp [hl'])]; cbv
    rw [hQ1]; cbv
    rw [hQ]; cbv
    rw [← hr, ← hb]; rfl
  | cons x suf =>
    obtain ⟨v, hv⟩ : ∃ y_, y_ = decide (x = n) := ⟨_, rfl⟩
    have hT' : T = (v || hasI suf n) := by rw [← hb, hv]; rfl
    obtain ⟨ix, hix⟩ : ∃ y_, y_ = pre.length * 1 := ⟨_, rfl⟩
    rw [F.lt_t hi la (by simp [hl'])]; cbv
    rw [show at' 1 ea i = some (ix, [.int .i64 x]) by rw [hix]; exact F.get hi hea hl' (fun _ => rfl) (by decide)]; cbv
    rw [show eq x n = v by rw [F.eq, hv]]; cbv
    refine both (fun d => ?_) (fun d => ?_) <;> rw [d] <;> cbv
    · rw [hQ1]; cbv
      rw [hQ]; cbv
      rw [← hr, hT', d]; rfl
    · refine ih (suf, pre ++ [x], add .i64 i 1) ⟨at_len (F.inc hi (by simp [hl'] at hl; omega)) (by simp), by simp [hl'], ?_⟩ (by simp)
      rw [hT', d]; rfl

/- spec.IsReserved -/
def resv (t : Int) : Bool := inR t 0 255 && decide (Int.tmod t 16 = 10)
theorem ok301 (t : Int) : fix Tb md 301 [I t] = some ⟨[B (resv t)], [], none⟩ := by
  obtain ⟨a, ha⟩ : ∃ y_, y_ = inR t 0 255 := ⟨_, rfl⟩
  obtain ⟨n, hn⟩ : ∃ y_, y_ = Int.tmod t 16 := ⟨_, rfl⟩
  obtain ⟨b, hb⟩ : ∃ y_, y_ = decide (n = 10) := ⟨_, rfl⟩
  rw [show resv t = (a && b) by rw [ha, hb, hn]; rfl]
  generalize hr : (⟨_, [], none⟩ : Ret) = r
  refine fix_fn2 (fn := ir301) tb_301 rfl rfl (by decide) rfl ?_; intro Q hQ; simp only [shutArgs, shutS, List.map_cons, List.map_nil, ir301, List.head?_nil, reduceCtorEq, if_false, sExt, sHello, sAnswer, sEdit, sDeal, sBox, sDialed, sKnown]
  intro add sub mul arith eq ne lt le gt ge neg conv mn mx not beq len at' ln bd cut app allS isNil mks set o hP F ho
  have c1 : o 230 [I t, I 0, I 255] = some ⟨[B a], [], none⟩ := by rw [ho, ha]; exact ok230 ..
  have g1 : arith .rem .i64 t 16 = some (.int .i64 n) := by rw [F.arith, hn]; rfl
  have g2 : eq n 10 = b := by rw [F.eq, hb]
  cbv
  rw [c1]; cbv
  refine both (fun d => ?_) (fun d => ?_) <;> rw [d] <;> cbv
  · rw [g1]; cbv
    rw [hQ]; cbv
    rw [g2, ← hr, d]; rfl
  · rw [hQ]; cbv
    rw [← hr, d]; rfl

/- spec.FitsHello -/
def okT (h : Hello) (e : Ext) : Bool := !(decide (extOf h.exts e.tag < 0) || resv e.tag)
def fitsV (h : Hello) (a : Answer) : Bool := a.exts.all (okT h) && isHel h && isAns a.version a.exts && hasI h.versions a.version
theorem ok160 (h : Hello) (a : Answer) (mh : h.Mid) (ma : a.Mid) {f0 f1 f2 : Fl} (q0 : inFl f0 = true) (q1 : inFl f1 = true) (q2 : inFl f2 = true) : fix Tb md 160 [sHello (row fI h.versions) (row fExt h.exts) f0 f1, sAnswer a.version (row fExt a.exts) f2] = some ⟨[B (fitsV h a)], [], none⟩ := by
  have mh' := mh
  have ma' := ma
  unfold Hello.Mid at mh
  unfold Answer.Mid at ma
  obtain ⟨T1, hT1⟩ : ∃ y_, y_ = a.exts.all (okT h) := ⟨_, rfl⟩
  obtain ⟨u1, hu1⟩ : ∃ y_, y_ = isHel h := ⟨_, rfl⟩
  obtain ⟨u2, hu2⟩ : ∃ y_, y_ = isAns a.version a.exts := ⟨_, rfl⟩
  obtain ⟨u3, hu3⟩ : ∃ y_, y_ = hasI h.versions a.version := ⟨_, rfl⟩
  rw [show fitsV h a = (T1 && u1 && u2 && u3) by rw [hT1, hu1, hu2, hu3]; rfl]
  generalize hr : (⟨_, [], none⟩ : Ret) = r
  obtain ⟨dv, hdv⟩ : ∃ y_, y_ = row fI h.versions := ⟨_, rfl⟩
  obtain ⟨dx, hdx⟩ : ∃ y_, y_ = row fExt h.exts := ⟨_, rfl⟩
  obtain ⟨ex, hex⟩ : ∃ y_, y_ = row fExt a.exts := ⟨_, rfl⟩
  rw [← hdv, ← hdx, ← hex]
  have wh : ∀ y ∈ h.exts, y.body.length ≤ 1099511627776 := fun y hy => Nat.le_trans (show y.body.length ≤ 1073741824 from mh.2.2 y hy) (by decide)
  have wa : ∀ y ∈ a.exts, y.body.length ≤ 1099511627776 := fun y hy => Nat.le_trans (show y.body.length ≤ 1073741824 from ma.2 y hy) (by decide)
  have mal := ma.1
  refine fix_fn2 (fn := ir160) tb_160 rfl rfl (by decide) rfl ?_; intro Q hQ; simp only [shutArgs, shutS, List.map_cons, List.map_nil, ir160, shut_in q0, shut_in q1, shut_in q2, List.head?_nil, reduceCtorEq, if_false, sExt, sHello, sAnswer, sEdit, sDeal, sBox, sDialed, sKnown]
  intro add sub mul arith eq ne lt le gt ge neg conv mn mx not beq len at' ln bd cut app allS isNil mks set o hP F ho
  have lx := F.len_at hex
  have c1 : o 142 [sHello dv dx (.sp 0 0) (.sp 0 1)] = some ⟨[B u1], [], none⟩ := by rw [ho, hu1, hdv, hdx]; exact ok142 _ (by omega) (by omega) wh rfl rfl
  have c2 : o 127 [sAnswer a.version ex (.sp 0 1)] = some ⟨[B u2], [], none⟩ := by rw [ho, hu2, hex]; exact ok127 _ _ (by omega) wa rfl
  have c3 : o 285 [R dv (.sp 0 0), I a.version] = some ⟨[B u3], [], none⟩ := by rw [ho, hu3, hdv]; exact ok285 _ _ (by omega) rfl
  cbv
  refine loop_ind2 hP (σ := List Ext × List Ext × Int) (fun s => [(0, sHello dv dx .sh .sh), (1, sAnswer a.version ex .sh), (2, ⟨.ptr 47 0, []⟩), (3, ⟨.ptr 48 0, []⟩), (4, B false), (5, I s.2.2), (47, ⟨.box (), [⟨.row () dv, .sh⟩, ⟨.row () dx, .sh⟩]⟩), (48, ⟨.box (), [⟨.int .i64 a.version, .sc⟩, ⟨.row () ex, .sh⟩]⟩)]) (fun s => At s.2.2 s.2.1.length ∧ a.exts = s.2.1 ++ s.1 ∧ s.1.all (okT h) = T1) (fun s => s.1.length) (a.exts, [], 0) rfl ⟨rfl, rfl, hT1.symm⟩ ?_
  intro c9 Q1 hc1 hQ1
  rintro ⟨suf, pre, i⟩ ⟨hi, hl', hb⟩ ih
  simp only at hi hl' hb ih
  cbv
  cases suf with
  | nil =>
    have hT1' : T1 = true := by rw [← hb]; rfl
    rw [F.lt_f hi lx (by simp [hl'])]; cbv
    rw [hQ1]; cbv
    rw [c1]; cbv
    refine both (fun d1 => ?_) (fun d1 => ?_) <;> rw [d1] <;> cbv
    · rw [c2]; cbv
      refine both (fun d2 => ?_) (fun d2 => ?_) <;> rw [d2] <;> cbv
      · rw [c3]; cbv
        rw [hQ]; cbv
        rw [← hr, hT1', d1, d2]; rfl
      · rw [hQ]; cbv
        rw [← hr, hT1', d1, d2]; rfl
    · rw [hQ]; cbv
      rw [← hr, hT1', d1]; rfl
  | cons y suf =>
    obtain ⟨ix, hix⟩ : ∃ y_, y_ = pre.length * 2 := ⟨_, rfl⟩
    obtain ⟨e1, he1⟩ : ∃ y_, y_ = row fI y.body := ⟨_, rfl⟩
    have hi' : At (add .i64 i 1) (pre ++ [y]).length := at_len (F.inc hi (by simp [hl'] at mal; omega)) (by simp)
    have hl2 : a.exts = (pre ++ [y]) ++ suf := by rw [hl']; simp
    have p0 : at' 2 ex i = some (ix, [.int .i64 y.tag, .row () e1]) := by rw [hix, he1]; exact F.get hi hex hl' (fun _ => rfl) (by decide)
    obtain ⟨v, hvv⟩ : ∃ y_, y_ = extOf h.exts y.tag := ⟨_, rfl⟩
    obtain ⟨b1, hb1⟩ : ∃ y_, y_ = decide (v < 0) := ⟨_, rfl⟩
    obtain ⟨b2, hb2⟩ : ∃ y_, y_ = resv y.tag := ⟨_, rfl⟩
    have hT' : T1 = (!(b1 || b2) && suf.all (okT h)) := by rw [← hb, hb1, hb2, hvv]; rfl
    have c4 : o 286 [R dx (.sp 0 0), I y.tag] = some ⟨[I v], [], none⟩ := by rw [ho, hvv, hdx]; exact ok286 _ _ (by omega) rfl
    have c5 : o 301 [I y.tag] = some ⟨[B b2], [], none⟩ := by rw [ho, hb2]; exact ok301 ..
    have g1 : lt v 0 = b1 := by rw [F.lt, hb1]
    rw [F.lt_t hi lx (by simp [hl'])]; cbv
    rw [p0]; cbv
    rw [c4]; cbv
    rw [g1]; cbv
    refine both (fun d1 => ?_) (fun d1 => ?_) <;> rw [d1] <;> cbv
    · rw [hQ1]; cbv
      rw [hQ]; cbv
      rw [← hr, hT', d1]; rfl
    rw [p0]; cbv
    rw [c5]; cbv
    refine both (fun d2 => ?_) (fun d2 => ?_) <;> rw [d2] <;> cbv
    · rw [hQ1]; cbv
      rw [hQ]; cbv
      rw [← hr, hT', d2, Bool.or_true]; rfl
    refine ih (suf, pre ++ [y], add .i64 i 1) ⟨hi', hl2, ?_⟩ (by simp)
    rw [hT', d1, d2]; rfl

/- impl.InRange -/
theorem ok232 (x lo hi : Int) : fix Tb md 232 [I x, I lo, I hi] = some ⟨[B (inR x lo hi)], [], none⟩ := by
  refine fix_fn (fn := ir232) tb_232 rfl rfl (by decide) rfl ?_; simp only [shutArgs, shutS, List.map_cons, List.map_nil, ir232, List.head?_nil, reduceCtorEq, if_false, sExt, sHello, sAnswer, sEdit, sDeal, sBox, sDialed, sKnown]
  generalize hr : (⟨_, [], none⟩ : Ret) = r
  intro add sub mul arith eq ne lt le gt ge neg conv mn mx not beq len at' ln bd cut app allS isNil mks set o hP F ho
  cbv
  repeat' (first | (refine both (fun c => ?_) (fun c => ?_) <;> (try rw [c]) <;> (try cbv)))
  all_goals (clear hP  ho; try simp only [F.eq, F.ne, F.le, F.lt, F.ge, F.gt, F.not, F.beq] at *; clear F; subst hr)
  all_goals (simp_all [inR] <;> (intros; omega))

/- impl.AreVersions -/
theorem ok255 (l : List Int) (hl : l.length ≤ 1099511627776) {f0 : Fl} (h0 : inFl f0 = true) : fix Tb md 255 [R (row fI l) f0] = some ⟨[B (areVer l)], [], none⟩ := by
  obtain ⟨T, hT⟩ : ∃ y_, y_ = verGo [] l := ⟨_, rfl⟩
  rw [show areVer l = (T && decide (0 < l.length)) by rw [hT]; rfl]
  generalize hr : (⟨_, [], none⟩ : Ret) = r
  obtain ⟨ea, hea⟩ : ∃ y_, y_ = row fI l := ⟨_, rfl⟩
  rw [← hea]
  refine fix_fn2 (fn := ir255) tb_255 rfl rfl (by decide) rfl ?_; intro Q hQ; simp only [shutArgs, shutS, List.map_cons, List.map_nil, ir255, shut_in h0, List.head?_nil, reduceCtorEq, if_false, sExt, sHello, sAnswer, sEdit, sDeal, sBox, sDialed, sKnown]
  intro add sub mul arith eq ne lt le gt ge neg conv mn mx not beq len at' ln bd cut app allS isNil mks set o hP F ho
  have la := F.len_at hea
  have h6 : gt (len ea) 0 = decide (0 < l.length) := F.gt_n la rfl
  cbv
  refine loop_ind2 hP (σ := List Int × List Int × Int × Option (Int × Int)) (fun s => match s.2.2.2 with | none => [(0, R ea .sh), (2, B false), (5, R ea .sh), (6, I (len ea)), (7, I s.2.2.1)] | some j => [(0, R ea .sh), (2, B false), (3, I j.1), (4, I j.2), (5, R ea .sh), (6, I (len ea)), (7, I s.2.2.1)]) (fun s => At s.2.2.1 s.2.1.length ∧ l = s.2.1 ++ s.1 ∧ verGo s.2.1 s.1 = T) (fun s => s.1.length) (l, [], 0, none) rfl ⟨rfl, rfl, hT.symm⟩ ?_
  intro c1 Q1 hc1 hQ1
  rintro ⟨suf, pre, i, j⟩ ⟨hi, hl', hb⟩ ih
  simp only at hi hl' hb ih
  cases j with
  | none =>
    cbv
    cases suf with
    | nil =>
      rw [F.lt_f hi la (by simp [hl'])]; cbv
      rw [hQ1]; cbv
      rw [hQ]; cbv
      rw [h6, ← hr, ← hb]; rfl
    | cons x suf =>
      obtain ⟨ix, hix⟩ : ∃ y_, y_ = pre.length * 1 := ⟨_, rfl⟩
      have hpre : pre.length ≤ 1099511627776 := by rw [hl'] at hl; simp at hl; omega
      have p0 : at' 1 ea i = some (ix, [.int .i64 x]) := by rw [hix]; exact F.get hi hea hl' (fun _ => rfl) (by decide)
      obtain ⟨b1, hb1⟩ : ∃ y_, y_ = inR x 1 9 := ⟨_, rfl⟩
      have c1 : o 232 [I x, I 1, I 9] = some ⟨[B b1], [], none⟩ := by rw [ho, hb1]; exact ok232 ..
      have hv0 : verGo pre (x :: suf) = (b1 && (match pre.getLast? with | none => true | some y => !decide (x ≤ y)) && verGo (pre ++ [x]) suf) := by rw [hb1]; rfl
      rw [hv0] at hb
      have hi' : At (add .i64 i 1) (pre ++ [x]).length := at_len (F.inc hi (by omega)) (by simp)
      have hl2 : l = (pre ++ [x]) ++ suf := by rw [hl']; simp
      have hg0 : gt i 0 = decide (0 < pre.length) := F.gt_n hi rfl
      rw [F.lt_t hi la (by simp [hl'])]; cbv
      rw [p0]; cbv
      rw [c1]; cbv
      refine both (fun d1 => ?_) (fun d1 => ?_) <;> rw [d1] <;> cbv
      · rw [hQ1]; cbv
        rw [hQ]; cbv
        rw [← hr, show T = false by rw [← hb, F.not_t d1]; rfl]; rfl
      rw [F.not_f d1, Bool.true_and] at hb
      rcases List.eq_nil_or_concat pre with hp | ⟨p', y, hp⟩
      · rw [show gt i 0 = false by rw [hg0, hp]; rfl]; cbv
        refine ih (suf, pre ++ [x], add .i64 i 1, some (i, x)) ⟨hi', hl2, ?_⟩ (by simp)
        simp only
        rw [← hb, hp]; rfl
      · rw [show gt i 0 = true by rw [hg0, hp]; simp]; cbv
        obtain ⟨iy, hiy⟩ : ∃ y_, y_ = p'.length * 1 := ⟨_, rfl⟩
        have hi2 : At (sub .i64 i 1) p'.length := by unfold At at hi ⊢; rw [hp] at hi; simp at hi; rw [F.sub, hi, wrap64 (by omega) (by rw [hp] at hpre; simp at hpre; omega)]; omega
        rw [show at' 1 ea (sub .i64 i 1) = some (iy, [.int .i64 y]) by rw [hiy]; exact F.get hi2 hea (show l = p' ++ y :: (x :: suf) by rw [hl', hp]; simp) (fun _ => rfl) (by decide)]; cbv
        skip
        obtain ⟨u, hu⟩ : ∃ y_, y_ = decide (x ≤ y) := ⟨_, rfl⟩
        rw [show ge y x = u by rw [F.ge, hu]]; cbv
        have hgl : pre.getLast? = some y := by rw [hp]; simp
        rw [hgl] at hb
        simp only at hb
        rw [← hu] at hb
        refine both (fun d3 => ?_) (fun d3 => ?_) <;> rw [d3] <;> cbv
        · rw [hQ1]; cbv
          rw [hQ]; cbv
          rw [← hr, show T = false by rw [← hb, d3]; rfl]; rfl
        · refine ih (suf, pre ++ [x], add .i64 i 1, some (i, x)) ⟨hi', hl2, ?_⟩ (by simp)
          rw [← hb, d3]; simp
  | some jj =>
    obtain ⟨j1, j2⟩ := jj
    cbv
    cases suf with
    | nil =>
      rw [F.lt_f hi la (by simp [hl'])]; cbv
      rw [hQ1]; cbv
      rw [hQ]; cbv
      rw [h6, ← hr, ← hb]; rfl
    | cons x suf =>
      obtain ⟨ix, hix⟩ : ∃ y_, y_ = pre.length * 1 := ⟨_, rfl⟩
      have hpre : pre.length ≤ 1099511627776 := by rw [hl'] at hl; simp at hl; omega
      have p0 : at' 1 ea i = some (ix, [.int .i64 x]) := by rw [hix]; exact F.get hi hea hl' (fun _ => rfl) (by decide)
      obtain ⟨b1, hb1⟩ : ∃ y_, y_ = inR x 1 9 := ⟨_, rfl⟩
      have c1 : o 232 [I x, I 1, I 9] = some ⟨[B b1], [], none⟩ := by rw [ho, hb1]; exact ok232 ..
      have hv0 : verGo pre (x :: suf) = (b1 && (match pre.getLast? with | none => true | some y => !decide (x ≤ y)) && verGo (pre ++ [x]) suf) := by rw [hb1]; rfl
      rw [hv0] at hb
      have hi' : At (add .i64 i 1) (pre ++ [x]).length := at_len (F.inc hi (by omega)) (by simp)
      have hl2 : l = (pre ++ [x]) ++ suf := by rw [hl']; simp
      have hg0 : gt i 0 = decide (0 < pre.length) := F.gt_n hi rfl
      rw [F.lt_t hi la (by simp [hl'])]; cbv
      rw [p0]; cbv
      rw [c1]; cbv
      refine both (fun d1 => ?_) (fun d1 => ?_) <;> rw [d1] <;> cbv
      · rw [hQ1]; cbv
        rw [hQ]; cbv
        rw [← hr, show T = false by rw [← hb, F.not_t d1]; rfl]; rfl
      rw [F.not_f d1, Bool.true_and] at hb
      rcases List.eq_nil_or_concat pre with hp | ⟨p', y, hp⟩
      · rw [show gt i 0 = false by rw [hg0, hp]; rfl]; cbv
        refine ih (suf, pre ++ [x], add .i64 i 1, some (i, x)) ⟨hi', hl2, ?_⟩ (by simp)
        simp only
        rw [← hb, hp]; rfl
      · rw [show gt i 0 = true by rw [hg0, hp]; simp]; cbv
        obtain ⟨iy, hiy⟩ : ∃ y_, y_ = p'.length * 1 := ⟨_, rfl⟩
        have hi2 : At (sub .i64 i 1) p'.length := by unfold At at hi ⊢; rw [hp] at hi; simp at hi; rw [F.sub, hi, wrap64 (by omega) (by rw [hp] at hpre; simp at hpre; omega)]; omega
        rw [show at' 1 ea (sub .i64 i 1) = some (iy, [.int .i64 y]) by rw [hiy]; exact F.get hi2 hea (show l = p' ++ y :: (x :: suf) by rw [hl', hp]; simp) (fun _ => rfl) (by decide)]; cbv
        skip
        obtain ⟨u, hu⟩ : ∃ y_, y_ = decide (x ≤ y) := ⟨_, rfl⟩
        rw [show ge y x = u by rw [F.ge, hu]]; cbv
        have hgl : pre.getLast? = some y := by rw [hp]; simp
        rw [hgl] at hb
        simp only at hb
        rw [← hu] at hb
        refine both (fun d3 => ?_) (fun d3 => ?_) <;> rw [d3] <;> cbv
        · rw [hQ1]; cbv
          rw [hQ]; cbv
          rw [← hr, show T = false by rw [← hb, d3]; rfl]; rfl
        · refine ih (suf, pre ++ [x], add .i64 i 1, some (i, x)) ⟨hi', hl2, ?_⟩ (by simp)
          rw [← hb, d3]; simp

/- slices.IndexFunc[[]int,int] -/
theorem ok377_0 (g : Nat) (hg : md g = []) (p : Int → Bool) (l : List Int) (hl : l.length ≤ 1099511627776) (hp : ∀ x ∈ l, fix Tb md g [I x] = some ⟨[B (p x)], [], none⟩) {f0 : Fl} (h0 : inFl f0 = true) :
    fix Tb md 377 [R (row fI l) f0, ⟨.val, [⟨.fn g [], .sh⟩]⟩] = some ⟨[I (ixOf p l 0)], [], none⟩ := by
  generalize hm : md = m at hg hp ⊢
  refine fix_fn (fn := ir377) tb_377 rfl rfl (by decide) rfl ?_; simp only [shutArgs, shutS, List.map_cons, List.map_nil, ir377, shut_in h0, List.head?_nil, reduceCtorEq, if_false, sExt, sHello, sAnswer, sEdit, sDeal, sBox, sDialed, sKnown]
  generalize hr : (⟨_, [], none⟩ : Ret) = r
  obtain ⟨ea, hea⟩ : ∃ y_, y_ = row fI l := ⟨_, rfl⟩
  rw [← hea]
  intro add sub mul arith eq ne lt le gt ge neg conv mn mx not beq len at' ln bd cut app allS isNil mks set o hP F ho
  have la := F.len_at hea
  cbv
  refine loop_ind hP (σ := List Int × List Int × Int × Option Int) (fun s => match s.2.2.2 with | none => [(0, R ea .sh), (1, ⟨.val, [⟨.fn g [], .sh⟩]⟩), (4, I 0), (7, I (len ea)), (8, I s.2.2.1)] | some j => [(0, R ea .sh), (1, ⟨.val, [⟨.fn g [], .sh⟩]⟩), (4, I 0), (5, I j), (7, I (len ea)), (8, I s.2.2.1)])
    (fun s => At s.2.2.1 s.2.1.length ∧ l = s.2.1 ++ s.1 ∧ ixOf p s.1 (s.2.1.length : Int) = ixOf p l 0) (fun s => s.1.length) (l, [], 0, none) rfl ⟨rfl, rfl, rfl⟩ ?_
  rintro ⟨suf, pre, i, j⟩ ⟨hi, hl', hx⟩ ih
  simp only at hi hl' hx ih
  have hi' : i = (pre.length : Int) := hi
  rw [← hi'] at hx
  cases j <;> cbv <;> (
    cases suf with
    | nil =>
      rw [F.lt_f hi la (by simp [hl'])]; cbv
      rw [← hr, ← hx]; rfl
    | cons x suf =>
      rw [F.lt_t hi la (by simp [hl'])]; cbv
      obtain ⟨ix, hix⟩ : ∃ y_, y_ = pre.length * 1 := ⟨_, rfl⟩
      rw [show at' 1 ea i = some (ix, [.int .i64 x]) by rw [hix]; exact F.get hi hea hl' (fun _ => rfl) (by decide)]; cbv
      obtain ⟨v, hv⟩ : ∃ y_, y_ = p x := ⟨_, rfl⟩
      have c1 : o g [I x] = some ⟨[B v], [], none⟩ := by rw [ho, hv]; exact hp x (by rw [hl']; simp)
      rw [hg]; cbv
      rw [c1]; cbv
      have hx1 : ixOf p (x :: suf) i = if p x = true then i else ixOf p suf (i + 1) := rfl
      rw [hx1] at hx
      refine both (fun c => ?_) (fun c => ?_) <;> rw [c] <;> cbv
      · rw [← hv, if_pos c] at hx
        rw [← hr, ← hx]
      · rw [← hv, if_neg (by simp [c])] at hx
        refine ih (suf, pre ++ [x], add .i64 i 1, some i) ⟨at_len (F.inc hi (by simp [hl'] at hl; omega)) (by simp), by simp [hl'], ?_⟩ (by simp)
        rw [← hx, hi']
        simp)
theorem ok377_1 (g : Nat) (hg : md g = []) (k0 : V) (p : Int → Bool) (l : List Int) (hl : l.length ≤ 1099511627776) (hp : ∀ x ∈ l, fix Tb md g [I x, ⟨.val, [⟨k0, .sh⟩]⟩] = some ⟨[B (p x)], [], none⟩) {f0 : Fl} (h0 : inFl f0 = true) :
    fix Tb md 377 [R (row fI l) f0, ⟨.val, [⟨.fn g [k0], .sh⟩]⟩] = some ⟨[I (ixOf p l 0)], [], none⟩ := by
  generalize hm : md = m at hg hp ⊢
  refine fix_fn (fn := ir377) tb_377 rfl rfl (by decide) rfl ?_; simp only [shutArgs, shutS, List.map_cons, List.map_nil, ir377, shut_in h0, List.head?_nil, reduceCtorEq, if_false, sExt, sHello, sAnswer, sEdit, sDeal, sBox, sDialed, sKnown]
  generalize hr : (⟨_, [], none⟩ : Ret) = r
  obtain ⟨ea, hea⟩ : ∃ y_, y_ = row fI l := ⟨_, rfl⟩
  rw [← hea]
  intro add sub mul arith eq ne lt le gt ge neg conv mn mx not beq len at' ln bd cut app allS isNil mks set o hP F ho
  have la := F.len_at hea
  cbv
  refine loop_ind hP (σ := List Int × List Int × Int × Option Int) (fun s => match s.2.2.2 with | none => [(0, R ea .sh), (1, ⟨.val, [⟨.fn g [k0], .sh⟩]⟩), (4, I 0), (7, I (len ea)), (8, I s.2.2.1)] | some j => [(0, R ea .sh), (1, ⟨.val, [⟨.fn g [k0], .sh⟩]⟩), (4, I 0), (5, I j), (7, I (len ea)), (8, I s.2.2.1)])
    (fun s => At s.2.2.1 s.2.1.length ∧ l = s.2.1 ++ s.1 ∧ ixOf p s.1 (s.2.1.length : Int) = ixOf p l 0) (fun s => s.1.length) (l, [], 0, none) rfl ⟨rfl, rfl, rfl⟩ ?_
  rintro ⟨suf, pre, i, j⟩ ⟨hi, hl', hx⟩ ih
  simp only at hi hl' hx ih
  have hi' : i = (pre.length : Int) := hi
  rw [← hi'] at hx
  cases j <;> cbv <;> (
    cases suf with
    | nil =>
      rw [F.lt_f hi la (by simp [hl'])]; cbv
      rw [← hr, ← hx]; rfl
    | cons x suf =>
      rw [F.lt_t hi la (by simp [hl'])]; cbv
      obtain ⟨ix, hix⟩ : ∃ y_, y_ = pre.length * 1 := ⟨_, rfl⟩
      rw [show at' 1 ea i = some (ix, [.int .i64 x]) by rw [hix]; exact F.get hi hea hl' (fun _ => rfl) (by decide)]; cbv
      obtain ⟨v, hv⟩ : ∃ y_, y_ = p x := ⟨_, rfl⟩
      have c1 : o g [I x, ⟨.val, [⟨k0, .sh⟩]⟩] = some ⟨[B v], [], none⟩ := by rw [ho, hv]; exact hp x (by rw [hl']; simp)
      rw [hg]; cbv
      rw [c1]; cbv
      have hx1 : ixOf p (x :: suf) i = if p x = true then i else ixOf p suf (i + 1) := rfl
      rw [hx1] at hx
      refine both (fun c => ?_) (fun c => ?_) <;> rw [c] <;> cbv
      · rw [← hv, if_pos c] at hx
        rw [← hr, ← hx]
      · rw [← hv, if_neg (by simp [c])] at hx
        refine ih (suf, pre ++ [x], add .i64 i 1, some i) ⟨at_len (F.inc hi (by simp [hl'] at hl; omega)) (by simp), by simp [hl'], ?_⟩ (by simp)
        rw [← hx, hi']
        simp)
theorem ok377_2 (g : Nat) (hg : md g = []) (k0 k1 : V) (p : Int → Bool) (l : List Int) (hl : l.length ≤ 1099511627776) (hp : ∀ x ∈ l, fix Tb md g [I x, ⟨.val, [⟨k0, .sh⟩]⟩, ⟨.val, [⟨k1, .sh⟩]⟩] = some ⟨[B (p x)], [], none⟩) {f0 : Fl} (h0 : inFl f0 = true) :
    fix Tb md 377 [R (row fI l) f0, ⟨.val, [⟨.fn g [k0, k1], .sh⟩]⟩] = some ⟨[I (ixOf p l 0)], [], none⟩ := by
  generalize hm : md = m at hg hp ⊢
  refine fix_fn (fn := ir377) tb_377 rfl rfl (by decide) rfl ?_; simp only [shutArgs, shutS, List.map_cons, List.map_nil, ir377, shut_in h0, List.head?_nil, reduceCtorEq, if_false, sExt, sHello, sAnswer, sEdit, sDeal, sBox, sDialed, sKnown]
  generalize hr : (⟨_, [], none⟩ : Ret) = r
  obtain ⟨ea, hea⟩ : ∃ y_, y_ = row fI l := ⟨_, rfl⟩
  rw [← hea]
  intro add sub mul arith eq ne lt le gt ge neg conv mn mx not beq len at' ln bd cut app allS isNil mks set o hP F ho
  have la := F.len_at hea
  cbv
  refine loop_ind hP (σ := List Int × List Int × Int × Option Int) (fun s => match s.2.2.2 with | none => [(0, R ea .sh), (1, ⟨.val, [⟨.fn g [k0, k1], .sh⟩]⟩), (4, I 0), (7, I (len ea)), (8, I s.2.2.1)] | some j => [(0, R ea .sh), (1, ⟨.val, [⟨.fn g [k0, k1], .sh⟩]⟩), (4, I 0), (5, I j), (7, I (len ea)), (8, I s.2.2.1)])
    (fun s => At s.2.2.1 s.2.1.length ∧ l = s.2.1 ++ s.1 ∧ ixOf p s.1 (s.2.1.length : Int) = ixOf p l 0) (fun s => s.1.length) (l, [], 0, none) rfl ⟨rfl, rfl, rfl⟩ ?_
  rintro ⟨suf, pre, i, j⟩ ⟨hi, hl', hx⟩ ih
  simp only at hi hl' hx ih
  have hi' : i = (pre.length : Int) := hi
  rw [← hi'] at hx
  cases j <;> cbv <;> (
    cases suf with
    | nil =>
      rw [F.lt_f hi la (by simp [hl'])]; cbv
      rw [← hr, ← hx]; rfl
    | cons x suf =>
      rw [F.lt_t hi la (by simp [hl'])]; cbv
      obtain ⟨ix, hix⟩ : ∃ y_, y_ = pre.length * 1 := ⟨_, rfl⟩
      rw [show at' 1 ea i = some (ix, [.int .i64 x]) by rw [hix]; exact F.get hi hea hl' (fun _ => rfl) (by decide)]; cbv
      obtain ⟨v, hv⟩ : ∃ y_, y_ = p x := ⟨_, rfl⟩
      have c1 : o g [I x, ⟨.val, [⟨k0, .sh⟩]⟩, ⟨.val, [⟨k1, .sh⟩]⟩] = some ⟨[B v], [], none⟩ := by rw [ho, hv]; exact hp x (by rw [hl']; simp)
      rw [hg]; cbv
      rw [c1]; cbv
      have hx1 : ixOf p (x :: suf) i = if p x = true then i else ixOf p suf (i + 1) := rfl
      rw [hx1] at hx
      refine both (fun c => ?_) (fun c => ?_) <;> rw [c] <;> cbv
      · rw [← hv, if_pos c] at hx
        rw [← hr, ← hx]
      · rw [← hv, if_neg (by simp [c])] at hx
        refine ih (suf, pre ++ [x], add .i64 i 1, some i) ⟨at_len (F.inc hi (by simp [hl'] at hl; omega)) (by simp), by simp [hl'], ?_⟩ (by simp)
        rw [← hx, hi']
        simp)

/- slices.ContainsFunc[[]int,int] -/
theorem ok336_0 (g : Nat) (hg : md g = []) (p : Int → Bool) (l : List Int) (hl : l.length ≤ 1099511627776) (hp : ∀ x ∈ l, fix Tb md g [I x] = some ⟨[B (p x)], [], none⟩) {f0 : Fl} (h0 : inFl f0 = true) :
    fix Tb md 336 [R (row fI l) f0, ⟨.val, [⟨.fn g [], .sh⟩]⟩] = some ⟨[B (l.any p)], [], none⟩ := by
  refine fix_fn (fn := ir336) tb_336 rfl rfl (by decide) rfl ?_; simp only [shutArgs, shutS, List.map_cons, List.map_nil, ir336, shut_in h0, List.head?_nil, reduceCtorEq, if_false, sExt, sHello, sAnswer, sEdit, sDeal, sBox, sDialed, sKnown]
  generalize hr : (⟨_, [], none⟩ : Ret) = r
  obtain ⟨ea, hea⟩ : ∃ y_, y_ = row fI l := ⟨_, rfl⟩
  rw [← hea]
  obtain ⟨v, hv⟩ : ∃ y_, y_ = ixOf p l 0 := ⟨_, rfl⟩
  have hv2 : decide (0 ≤ v) = l.any p := by rw [hv]; exact ixOf_ge p l 0 (by decide)
  rw [← hv2] at hr
  clear hv2
  intro add sub mul arith eq ne lt le gt ge neg conv mn mx not beq len at' ln bd cut app allS isNil mks set o hP F ho
  have c1 : o 377 [R ea (.sp 0 0), ⟨.val, [⟨.fn g [], .sh⟩]⟩] = some ⟨[I v], [], none⟩ := by rw [ho, hv, hea]; exact ok377_0 g hg p l hl hp rfl
  cbv
  rw [c1]; cbv
  rw [← hr, F.ge]
theorem ok336_1 (g : Nat) (hg : md g = []) (k0 : V) (p : Int → Bool) (l : List Int) (hl : l.length ≤ 1099511627776) (hp : ∀ x ∈ l, fix Tb md g [I x, ⟨.val, [⟨k0, .sh⟩]⟩] = some ⟨[B (p x)], [], none⟩) {f0 : Fl} (h0 : inFl f0 = true) :
    fix Tb md 336 [R (row fI l) f0, ⟨.val, [⟨.fn g [k0], .sh⟩]⟩] = some ⟨[B (l.any p)], [], none⟩ := by
  refine fix_fn (fn := ir336) tb_336 rfl rfl (by decide) rfl ?_; simp only [shutArgs, shutS, List.map_cons, List.map_nil, ir336, shut_in h0, List.head?_nil, reduceCtorEq, if_false, sExt, sHello, sAnswer, sEdit, sDeal, sBox, sDialed, sKnown]
  generalize hr : (⟨_, [], none⟩ : Ret) = r
  obtain ⟨ea, hea⟩ : ∃ y_, y_ = row fI l := ⟨_, rfl⟩
  rw [← hea]
  obtain ⟨v, hv⟩ : ∃ y_, y_ = ixOf p l 0 := ⟨_, rfl⟩
  have hv2 : decide (0 ≤ v) = l.any p := by rw [hv]; exact ixOf_ge p l 0 (by decide)
  rw [← hv2] at hr
  clear hv2
  intro add sub mul arith eq ne lt le gt ge neg conv mn mx not beq len at' ln bd cut app allS isNil mks set o hP F ho
  have c1 : o 377 [R ea (.sp 0 0), ⟨.val, [⟨.fn g [k0], .sh⟩]⟩] = some ⟨[I v], [], none⟩ := by rw [ho, hv, hea]; exact ok377_1 g hg k0 p l hl hp rfl
  cbv
  rw [c1]; cbv
  rw [← hr, F.ge]
theorem ok336_2 (g : Nat) (hg : md g = []) (k0 k1 : V) (p : Int → Bool) (l : List Int) (hl : l.length ≤ 1099511627776) (hp : ∀ x ∈ l, fix Tb md g [I x, ⟨.val, [⟨k0, .sh⟩]⟩, ⟨.val, [⟨k1, .sh⟩]⟩] = some ⟨[B (p x)], [], none⟩) {f0 : Fl} (h0 : inFl f0 = true) :
    fix Tb md 336 [R (row fI l) f0, ⟨.val, [⟨.fn g [k0, k1], .sh⟩]⟩] = some ⟨[B (l.any p)], [], none⟩ := by
  refine fix_fn (fn := ir336) tb_336 rfl rfl (by decide) rfl ?_; simp only [shutArgs, shutS, List.map_cons, List.map_nil, ir336, shut_in h0, List.head?_nil, reduceCtorEq, if_false, sExt, sHello, sAnswer, sEdit, sDeal, sBox, sDialed, sKnown]
  generalize hr : (⟨_, [], none⟩ : Ret) = r
  obtain ⟨ea, hea⟩ : ∃ y_, y_ = row fI l := ⟨_, rfl⟩
  rw [← hea]
  obtain ⟨v, hv⟩ : ∃ y_, y_ = ixOf p l 0 := ⟨_, rfl⟩
  have hv2 : decide (0 ≤ v) = l.any p := by rw [hv]; exact ixOf_ge p l 0 (by decide)
  rw [← hv2] at hr
  clear hv2
  intro add sub mul arith eq ne lt le gt ge neg conv mn mx not beq len at' ln bd cut app allS isNil mks set o hP F ho
  have c1 : o 377 [R ea (.sp 0 0), ⟨.val, [⟨.fn g [k0, k1], .sh⟩]⟩] = some ⟨[I v], [], none⟩ := by rw [ho, hv, hea]; exact ok377_2 g hg k0 k1 p l hl hp rfl
  cbv
  rw [c1]; cbv
  rw [← hr, F.ge]

/- impl.areNumbers$1 -/
theorem ok340 (x lo hi : Int) : fix Tb md 340 [I x, ⟨.val, [⟨.ptr () [.int .i64 lo], .sh⟩]⟩, ⟨.val, [⟨.ptr () [.int .i64 hi], .sh⟩]⟩] = some ⟨[B (!inR x lo hi)], [], none⟩ := by
  refine fix_fn (fn := ir340) tb_340 rfl rfl (by decide) rfl ?_; simp only [shutArgs, shutS, List.map_cons, List.map_nil, ir340, List.head?_nil, reduceCtorEq, if_false, sExt, sHello, sAnswer, sEdit, sDeal, sBox, sDialed, sKnown]
  generalize hr : (⟨_, [], none⟩ : Ret) = r
  obtain ⟨v, hv⟩ : ∃ y_, y_ = inR x lo hi := ⟨_, rfl⟩
  rw [← hv] at hr
  intro add sub mul arith eq ne lt le gt ge neg conv mn mx not beq len at' ln bd cut app allS isNil mks set o hP F ho
  have c1 : o 232 [I x, I lo, I hi] = some ⟨[B v], [], none⟩ := by rw [ho, hv]; exact ok232 ..
  cbv
  rw [c1]; cbv
  rw [← hr, F.not]

/- impl.areNumbers -/
def nums (l : List Int) (lo hi : Int) : Bool := l.all fun x => inR x lo hi
theorem ok233 (l : List Int) (lo hi : Int) (hl : l.length ≤ 1099511627776) {f0 : Fl} (h0 : inFl f0 = true) : fix Tb md 233 [R (row fI l) f0, I lo, I hi] = some ⟨[B (nums l lo hi)], [], none⟩ := by
  rw [show nums l lo hi = !(l.any fun x => !inR x lo hi) by unfold nums; simp [List.all_eq_not_any_not]]
  refine fix_fn (fn := ir233) tb_233 rfl rfl (by decide) rfl ?_; simp only [shutArgs, shutS, List.map_cons, List.map_nil, ir233, shut_in h0, List.head?_nil, reduceCtorEq, if_false, sExt, sHello, sAnswer, sEdit, sDeal, sBox, sDialed, sKnown]
  generalize hr : (⟨_, [], none⟩ : Ret) = r
  obtain ⟨v, hv⟩ : ∃ y_, y_ = l.any fun x => !inR x lo hi := ⟨_, rfl⟩
  obtain ⟨ea, hea⟩ : ∃ y_, y_ = row fI l := ⟨_, rfl⟩
  rw [← hv] at hr
  rw [← hea]
  intro add sub mul arith eq ne lt le gt ge neg conv mn mx not beq len at' ln bd cut app allS isNil mks set o hP F ho
  have c1 : o 336 [R ea (.sp 0 0), ⟨.val, [⟨.fn 340 [.ptr () [.int .i64 lo], .ptr () [.int .i64 hi]], .sh⟩]⟩] = some ⟨[B v], [], none⟩ := by rw [ho, hv, hea]; exact ok336_2 340 rfl _ _ _ l hl (fun x _ => ok340 x lo hi) rfl
  cbv
  rw [c1]; cbv
  rw [← hr, F.not]

/- impl.Ext] -/
theorem ok351_0 (g : Nat) (hg : md g = []) (p : Ext → Bool) (l : List Ext) (hl : l.length ≤ 1099511627776) (hp : ∀ x ∈ l, fix Tb md g [sExt x.tag (row fI x.body) (.sp 0 1)] = some ⟨[B (p x)], [], none⟩) {f0 : Fl} (h0 : inFl f0 = true) :
    fix Tb md 351 [R (row fExt l) f0, ⟨.val, [⟨.fn g [], .sh⟩]⟩] = some ⟨[I (ixOf p l 0)], [], none⟩ := by
  generalize hm : md = m at hg hp ⊢
  refine fix_fn (fn := ir351) tb_351 rfl rfl (by decide) rfl ?_; simp only [shutArgs, shutS, List.map_cons, List.map_nil, ir351, shut_in h0, List.head?_nil, reduceCtorEq, if_false, sExt, sHello, sAnswer, sEdit, sDeal, sBox, sDialed, sKnown]
  generalize hr : (⟨_, [], none⟩ : Ret) = r
  obtain ⟨ea, hea⟩ : ∃ y_, y_ = row fExt l := ⟨_, rfl⟩
  rw [← hea]
  intro add sub mul arith eq ne lt le gt ge neg conv mn mx not beq len at' ln bd cut app allS isNil mks set o hP F ho
  have la := F.len_at hea
  cbv
  refine loop_ind hP (σ := List Ext × List Ext × Int × Option Int) (fun s => match s.2.2.2 with | none => [(0, R ea .sh), (1, ⟨.val, [⟨.fn g [], .sh⟩]⟩), (4, I 0), (7, I (len ea)), (8, I s.2.2.1)] | some j => [(0, R ea .sh), (1, ⟨.val, [⟨.fn g [], .sh⟩]⟩), (4, I 0), (5, I j), (7, I (len ea)), (8, I s.2.2.1)])
    (fun s => At s.2.2.1 s.2.1.length ∧ l = s.2.1 ++ s.1 ∧ ixOf p s.1 (s.2.1.length : Int) = ixOf p l 0) (fun s => s.1.length) (l, [], 0, none) rfl ⟨rfl, rfl, rfl⟩ ?_
  rintro ⟨suf, pre, i, j⟩ ⟨hi, hl', hx⟩ ih
  simp only at hi hl' hx ih
  have hi' : i = (pre.length : Int) := hi
  rw [← hi'] at hx
  cases j <;> cbv <;> (
    cases suf with
    | nil =>
      rw [F.lt_f hi la (by simp [hl'])]; cbv
      rw [← hr, ← hx]; rfl
    | cons x suf =>
      rw [F.lt_t hi la (by simp [hl'])]; cbv
      obtain ⟨e1, he1⟩ : ∃ y_, y_ = row fI x.body := ⟨_, rfl⟩
      obtain ⟨ix, hix⟩ : ∃ y_, y_ = pre.length * 2 := ⟨_, rfl⟩
      rw [show at' 2 ea i = some (ix, [.int .i64 x.tag, .row () e1]) by rw [hix, he1]; exact F.get hi hea hl' (fun _ => rfl) (by decide)]; cbv
      obtain ⟨v, hv⟩ : ∃ y_, y_ = p x := ⟨_, rfl⟩
      have c1 : o g [sExt x.tag e1 (.sp 0 1)] = some ⟨[B v], [], none⟩ := by rw [ho, hv, he1]; exact hp x (by rw [hl']; simp)
      rw [hg]; cbv
      rw [c1]; cbv
      have hx1 : ixOf p (x :: suf) i = if p x = true then i else ixOf p suf (i + 1) := rfl
      rw [hx1] at hx
      refine both (fun c => ?_) (fun c => ?_) <;> rw [c] <;> cbv
      · rw [← hv, if_pos c] at hx
        rw [← hr, ← hx]
      · rw [← hv, if_neg (by simp [c])] at hx
        refine ih (suf, pre ++ [x], add .i64 i 1, some i) ⟨at_len (F.inc hi (by simp [hl'] at hl; omega)) (by simp), by simp [hl'], ?_⟩ (by simp)
        rw [← hx, hi']
        simp)
theorem ok351_1 (g : Nat) (hg : md g = []) (k0 : V) (p : Ext → Bool) (l : List Ext) (hl : l.length ≤ 1099511627776) (hp : ∀ x ∈ l, fix Tb md g [sExt x.tag (row fI x.body) (.sp 0 1), ⟨.val, [⟨k0, .sh⟩]⟩] = some ⟨[B (p x)], [], none⟩) {f0 : Fl} (h0 : inFl f0 = true) :
    fix Tb md 351 [R (row fExt l) f0, ⟨.val, [⟨.fn g [k0], .sh⟩]⟩] = some ⟨[I (ixOf p l 0)], [], none⟩ := by
  generalize hm : md = m at hg hp ⊢
  refine fix_fn (fn := ir351) tb_351 rfl rfl (by decide) rfl ?_; simp only [shutArgs, shutS, List.map_cons, List.map_nil, ir351, shut_in h0, List.head?_nil, reduceCtorEq, if_false, sExt, sHello, sAnswer, sEdit, sDeal, sBox, sDialed, sKnown]
  generalize hr : (⟨_, [], none⟩ : Ret) = r
  obtain ⟨ea, hea⟩ : ∃ y_, y_ = row fExt l := ⟨_, rfl⟩
  rw [← hea]
  intro add sub mul arith eq ne lt le gt ge neg conv mn mx not beq len at' ln bd cut app allS isNil mks set o hP F ho
  have la := F.len_at hea
  cbv
  refine loop_ind hP (σ := List Ext × List Ext × Int × Option Int) (fun s => match s.2.2.2 with | none => [(0, R ea .sh), (1, ⟨.val, [⟨.fn g [k0], .sh⟩]⟩), (4, I 0), (7, I (len ea)), (8, I s.2.2.1)] | some j => [(0, R ea .sh), (1, ⟨.val, [⟨.fn g [k0], .sh⟩]⟩), (4, I 0), (5, I j), (7, I (len ea)), (8, I s.2.2.1)])
    (fun s => At s.2.2.1 s.2.1.length ∧ l = s.2.1 ++ s.1 ∧ ixOf p s.1 (s.2.1.length : Int) = ixOf p l 0) (fun s => s.1.length) (l, [], 0, none) rfl ⟨rfl, rfl, rfl⟩ ?_
  rintro ⟨suf, pre, i, j⟩ ⟨hi, hl', hx⟩ ih
  simp only at hi hl' hx ih
  have hi' : i = (pre.length : Int) := hi
  rw [← hi'] at hx
  cases j <;> cbv <;> (
    cases suf with
    | nil =>
      rw [F.lt_f hi la (by simp [hl'])]; cbv
      rw [← hr, ← hx]; rfl
    | cons x suf =>
      rw [F.lt_t hi la (by simp [hl'])]; cbv
      obtain ⟨e1, he1⟩ : ∃ y_, y_ = row fI x.body := ⟨_, rfl⟩
      obtain ⟨ix, hix⟩ : ∃ y_, y_ = pre.length * 2 := ⟨_, rfl⟩
      rw [show at' 2 ea i = some (ix, [.int .i64 x.tag, .row () e1]) by rw [hix, he1]; exact F.get hi hea hl' (fun _ => rfl) (by decide)]; cbv
      obtain ⟨v, hv⟩ : ∃ y_, y_ = p x := ⟨_, rfl⟩
      have c1 : o g [sExt x.tag e1 (.sp 0 1), ⟨.val, [⟨k0, .sh⟩]⟩] = some ⟨[B v], [], none⟩ := by rw [ho, hv, he1]; exact hp x (by rw [hl']; simp)
      rw [hg]; cbv
      rw [c1]; cbv
      have hx1 : ixOf p (x :: suf) i = if p x = true then i else ixOf p suf (i + 1) := rfl
      rw [hx1] at hx
      refine both (fun c => ?_) (fun c => ?_) <;> rw [c] <;> cbv
      · rw [← hv, if_pos c] at hx
        rw [← hr, ← hx]
      · rw [← hv, if_neg (by simp [c])] at hx
        refine ih (suf, pre ++ [x], add .i64 i 1, some i) ⟨at_len (F.inc hi (by simp [hl'] at hl; omega)) (by simp), by simp [hl'], ?_⟩ (by simp)
        rw [← hx, hi']
        simp)
theorem ok351_2 (g : Nat) (hg : md g = []) (k0 k1 : V) (p : Ext → Bool) (l : List Ext) (hl : l.length ≤ 1099511627776) (hp : ∀ x ∈ l, fix Tb md g [sExt x.tag (row fI x.body) (.sp 0 1), ⟨.val, [⟨k0, .sh⟩]⟩, ⟨.val, [⟨k1, .sh⟩]⟩] = some ⟨[B (p x)], [], none⟩) {f0 : Fl} (h0 : inFl f0 = true) :
    fix Tb md 351 [R (row fExt l) f0, ⟨.val, [⟨.fn g [k0, k1], .sh⟩]⟩] = some ⟨[I (ixOf p l 0)], [], none⟩ := by
  generalize hm : md = m at hg hp ⊢
  refine fix_fn (fn := ir351) tb_351 rfl rfl (by decide) rfl ?_; simp only [shutArgs, shutS, List.map_cons, List.map_nil, ir351, shut_in h0, List.head?_nil, reduceCtorEq, if_false, sExt, sHello, sAnswer, sEdit, sDeal, sBox, sDialed, sKnown]
  generalize hr : (⟨_, [], none⟩ : Ret) = r
  obtain ⟨ea, hea⟩ : ∃ y_, y_ = row fExt l := ⟨_, rfl⟩
  rw [← hea]
  intro add sub mul arith eq ne lt le gt ge neg conv mn mx not beq len at' ln bd cut app allS isNil mks set o hP F ho
  have la := F.len_at hea
  cbv
  refine loop_ind hP (σ := List Ext × List Ext × Int × Option Int) (fun s => match s.2.2.2 with | none => [(0, R ea .sh), (1, ⟨.val, [⟨.fn g [k0, k1], .sh⟩]⟩), (4, I 0), (7, I (len ea)), (8, I s.2.2.1)] | some j => [(0, R ea .sh), (1, ⟨.val, [⟨.fn g [k0, k1], .sh⟩]⟩), (4, I 0), (5, I j), (7, I (len ea)), (8, I s.2.2.1)])
    (fun s => At s.2.2.1 s.2.1.length ∧ l = s.2.1 ++ s.1 ∧ ixOf p s.1 (s.2.1.length : Int) = ixOf p l 0) (fun s => s.1.length) (l, [], 0, none) rfl ⟨rfl, rfl, rfl⟩ ?_
  rintro ⟨suf, pre, i, j⟩ ⟨hi, hl', hx⟩ ih
  simp only at hi hl' hx ih
  have hi' : i = (pre.length : Int) := hi
  rw [← hi'] at hx
  cases j <;> cbv <;> (
    cases suf with
    | nil =>
      rw [F.lt_f hi la (by simp [hl'])]; cbv
      rw [← hr, ← hx]; rfl
    | cons x suf =>
      rw [F.lt_t hi la (by simp [hl'])]; cbv
      obtain ⟨e1, he1⟩ : ∃ y_, y_ = row fI x.body := ⟨_, rfl⟩
      obtain ⟨ix, hix⟩ : ∃ y_, y_ = pre.length * 2 := ⟨_, rfl⟩
      rw [show at' 2 ea i = some (ix, [.int .i64 x.tag, .row () e1]) by rw [hix, he1]; exact F.get hi hea hl' (fun _ => rfl) (by decide)]; cbv
      obtain ⟨v, hv⟩ : ∃ y_, y_ = p x := ⟨_, rfl⟩
      have c1 : o g [sExt x.tag e1 (.sp 0 1), ⟨.val, [⟨k0, .sh⟩]⟩, ⟨.val, [⟨k1, .sh⟩]⟩] = some ⟨[B v], [], none⟩ := by rw [ho, hv, he1]; exact hp x (by rw [hl']; simp)
      rw [hg]; cbv
      rw [c1]; cbv
      have hx1 : ixOf p (x :: suf) i = if p x = true then i else ixOf p suf (i + 1) := rfl
      rw [hx1] at hx
      refine both (fun c => ?_) (fun c => ?_) <;> rw [c] <;> cbv
      · rw [← hv, if_pos c] at hx
        rw [← hr, ← hx]
      · rw [← hv, if_neg (by simp [c])] at hx
        refine ih (suf, pre ++ [x], add .i64 i 1, some i) ⟨at_len (F.inc hi (by simp [hl'] at hl; omega)) (by simp), by simp [hl'], ?_⟩ (by simp)
        rw [← hx, hi']
        simp)

/- impl.ExtOf$1 -/
theorem ok352 (e : Ext) (t : Int) {f0 : Fl} (h0 : inFl f0 = true) : fix Tb md 352 [sExt e.tag (row fI e.body) f0, ⟨.val, [⟨.ptr () [.int .i64 t], .sh⟩]⟩] = some ⟨[B (tagP t e)], [], none⟩ := by
  generalize hr : (⟨_, [], none⟩ : Ret) = r
  obtain ⟨ey, hey⟩ : ∃ y_, y_ = row fI e.body := ⟨_, rfl⟩
  rw [← hey]
  refine fix_fn2 (fn := ir352) tb_352 rfl rfl (by decide) rfl ?_; intro Q hQ; simp only [shutArgs, shutS, List.map_cons, List.map_nil, ir352, shut_in h0, List.head?_nil, reduceCtorEq, if_false, sExt, sHello, sAnswer, sEdit, sDeal, sBox, sDialed, sKnown]
  intro add sub mul arith eq ne lt le gt ge neg conv mn mx not beq len at' ln bd cut app allS isNil mks set o hP F ho
  cbv
  rw [hQ]; cbv
  rw [← hr, F.eq]; rfl

/- impl.ExtOf -/
theorem ok290 (l : List Ext) (t : Int) (hl : l.length ≤ 1099511627776) {f0 : Fl} (h0 : inFl f0 = true) : fix Tb md 290 [R (row fExt l) f0, I t] = some ⟨[I (extOf l t)], [], none⟩ := by
  obtain ⟨T, hT⟩ : ∃ y_, y_ = extOf l t := ⟨_, rfl⟩
  rw [← hT]
  generalize hr : (⟨_, [], none⟩ : Ret) = r
  obtain ⟨ea, hea⟩ : ∃ y_, y_ = row fExt l := ⟨_, rfl⟩
  rw [← hea]
  refine fix_fn2 (fn := ir290) tb_290 rfl rfl (by decide) rfl ?_; intro Q hQ; simp only [shutArgs, shutS, List.map_cons, List.map_nil, ir290, shut_in h0, List.head?_nil, reduceCtorEq, if_false, sExt, sHello, sAnswer, sEdit, sDeal, sBox, sDialed, sKnown]
  intro add sub mul arith eq ne lt le gt ge neg conv mn mx not beq len at' ln bd cut app allS isNil mks set o hP F ho
  have c1 : o 351 [R ea (.sp 0 0), ⟨.val, [⟨.fn 352 [.ptr () [.int .i64 t]], .sh⟩]⟩] = some ⟨[I T], [], none⟩ := by rw [ho, hT, hea]; exact ok351_1 352 rfl _ (tagP t) l hl (fun x _ => ok352 x t rfl) rfl
  cbv
  rw [c1]; cbv
  rw [hQ]; cbv
  exact congrArg some hr

/- impl.AreExts -/
theorem ok258 (l : List Ext) (hl : l.length ≤ 1099511627776) (w : ∀ y ∈ l, y.body.length ≤ 1099511627776) {f0 : Fl} (h0 : inFl f0 = true) : fix Tb md 258 [R (row fExt l) f0] = some ⟨[B (areEx l)], [], none⟩ := by
  obtain ⟨T, hT⟩ : ∃ y_, y_ = exOk [] l := ⟨_, rfl⟩
  rw [show areEx l = (T && decide (l.length ≤ 6)) by rw [hT]; rfl]
  generalize hr : (⟨_, [], none⟩ : Ret) = r
  obtain ⟨ea, hea⟩ : ∃ y_, y_ = row fExt l := ⟨_, rfl⟩
  rw [← hea]
  refine fix_fn2 (fn := ir258) tb_258 rfl rfl (by decide) rfl ?_; intro Q hQ; simp only [shutArgs, shutS, List.map_cons, List.map_nil, ir258, shut_in h0, List.head?_nil, reduceCtorEq, if_false, sExt, sHello, sAnswer, sEdit, sDeal, sBox, sDialed, sKnown]
  intro add sub mul arith eq ne lt le gt ge neg conv mn mx not beq len at' ln bd cut app allS isNil mks set o hP F ho
  have la := F.len_at hea
  have h6 : le (len ea) 6 = decide (l.length ≤ 6) := F.le_n la rfl
  cbv
  refine loop_ind2 hP (σ := List Ext × List Ext × Int × Option (Int × Int × List (List V))) (fun s => match s.2.2.2 with
      | none => [(0, R ea .sh), (2, B false), (5, R ea .sh), (6, I (len ea)), (7, I s.2.2.1)]
      | some j => [(0, R ea .sh), (2, B false), (3, I j.1), (4, ⟨.ptr 45 0, []⟩), (5, R ea .sh), (6, I (len ea)), (7, I s.2.2.1), (45, ⟨.box (), [⟨.int .i64 j.2.1, .sc⟩, ⟨.row () j.2.2, .sh⟩]⟩)]) (fun s => At s.2.2.1 s.2.1.length ∧ l = s.2.1 ++ s.1 ∧ exOk s.2.1 s.1 = T) (fun s => s.1.length) (l, [], 0, none) rfl ⟨rfl, rfl, hT.symm⟩ ?_
  intro c1 Q1 hc1 hQ1
  rintro ⟨suf, pre, i, j⟩ ⟨hi, hl', hb⟩ ih
  simp only at hi hl' hb ih
  cases j with
  | none =>
    cbv
    cases suf with
    | nil =>
      rw [F.lt_f hi la (by simp [hl'])]; cbv
      rw [hQ1]; cbv
      rw [hQ]; cbv
      rw [h6, ← hr, ← hb]; rfl
    | cons x suf =>
      obtain ⟨ix, hix⟩ : ∃ y_, y_ = pre.length * 2 := ⟨_, rfl⟩
      obtain ⟨e1, he1⟩ : ∃ y_, y_ = row fI x.body := ⟨_, rfl⟩
      have l1 := F.len_at he1
      have hx := w x (by rw [hl']; simp)
      have hpre : pre.length ≤ 1099511627776 := by rw [hl'] at hl; simp at hl; omega
      have p0 : at' 2 ea i = some (ix, [.int .i64 x.tag, .row () e1]) := by rw [hix, he1]; exact F.get hi hea hl' (fun _ => rfl) (by decide)
      obtain ⟨b1, hb1⟩ : ∃ y_, y_ = inR x.tag 0 255 := ⟨_, rfl⟩
      obtain ⟨b2, hb2⟩ : ∃ y_, y_ = decide (4 < x.body.length) := ⟨_, rfl⟩
      obtain ⟨b3, hb3⟩ : ∃ y_, y_ = bytes x.body := ⟨_, rfl⟩
      obtain ⟨b4, hb4⟩ : ∃ y_, y_ = pre.any (tagP x.tag) := ⟨_, rfl⟩
      obtain ⟨ep, hep⟩ : ∃ y_, y_ = row fExt pre := ⟨_, rfl⟩
      obtain ⟨v, hv⟩ : ∃ y_, y_ = extOf pre x.tag := ⟨_, rfl⟩
      have g4 : gt (len e1) 4 = b2 := by rw [hb2]; exact F.gt_n l1 rfl
      have c1 : o 232 [I x.tag, I 0, I 255] = some ⟨[B b1], [], none⟩ := by rw [ho, hb1]; exact ok232 ..
      have c3 : o 233 [R e1 (.sp 0 0), I 0, I 255] = some ⟨[B b3], [], none⟩ := by rw [ho, hb3, he1]; exact ok233 _ _ _ hx rfl
      have c4 : o 290 [R ep (.sp 0 0), I x.tag] = some ⟨[I v], [], none⟩ := by rw [ho, hv, hep]; exact ok290 _ _ hpre rfl
      have g5 : ge v 0 = b4 := by rw [F.ge, hv, hb4]; exact ixOf_ge (tagP x.tag) pre 0 (by decide)
      have hT' : T = (b1 && !b2 && b3 && !b4 && exOk (pre ++ [x]) suf) := by rw [← hb, hb1, hb2, hb3, hb4]; rfl
      obtain ⟨n, hn⟩ : ∃ y_, y_ = pre.length := ⟨_, rfl⟩
      have q1 : bd (ln ea) i = some n := by rw [F.ln' hea, hn]; exact F.bd' hi (by rw [hl']; simp)
      have q2 : cut 2 ea n 0 = some ep := by rw [F.cut' hea (fun _ => rfl), hep, hl', hn]; simp
      rw [F.lt_t hi la (by simp [hl'])]; cbv
      rw [p0]; cbv
      rw [c1]; cbv
      refine both (fun d1 => ?_) (fun d1 => ?_) <;> rw [d1] <;> cbv
      · rw [hQ1]; cbv
        rw [hQ]; cbv
        rw [← hr, show T = false by rw [hT', F.not_t d1]; rfl]; rfl
      rw [q1]; cbv
      rw [q2]; cbv
      rw [c4]; cbv
      rw [g5]; cbv
      refine both (fun d4 => ?_) (fun d4 => ?_) <;> rw [d4] <;> cbv
      · rw [hQ1]; cbv
        rw [hQ]; cbv
        rw [← hr, show T = false by rw [hT', d4]; simp]; rfl
      rw [g4]; cbv
      refine both (fun d2 => ?_) (fun d2 => ?_) <;> rw [d2] <;> cbv
      · rw [hQ1]; cbv
        rw [hQ]; cbv
        rw [← hr, show T = false by rw [hT', d2]; simp]; rfl
      rw [c3]; cbv
      refine both (fun d3 => ?_) (fun d3 => ?_) <;> rw [d3] <;> cbv
      · rw [hQ1]; cbv
        rw [hQ]; cbv
        rw [← hr, show T = false by rw [hT', F.not_t d3]; simp]; rfl
      refine ih (suf, pre ++ [x], add .i64 i 1, some (i, x.tag, e1)) ⟨at_len (F.inc hi (by omega)) (by simp), by simp [hl'], ?_⟩ (by simp)
      rw [hT', F.not_f d1, d2, F.not_f d3, d4]; simp
  | some jj =>
    obtain ⟨j3, j4, j5⟩ := jj
    cbv
    cases suf with
    | nil =>
      rw [F.lt_f hi la (by simp [hl'])]; cbv
      rw [hQ1]; cbv
      rw [hQ]; cbv
      rw [h6, ← hr, ← hb]; rfl
    | cons x suf =>
      obtain ⟨ix, hix⟩ : ∃ y_, y_ = pre.length * 2 := ⟨_, rfl⟩
      obtain ⟨e1, he1⟩ : ∃ y_, y_ = row fI x.body := ⟨_, rfl⟩
      have l1 := F.len_at he1
      have hx := w x (by rw [hl']; simp)
      have hpre : pre.length ≤ 1099511627776 := by rw [hl'] at hl; simp at hl; omega
      have p0 : at' 2 ea i = some (ix, [.int .i64 x.tag, .row () e1]) := by rw [hix, he1]; exact F.get hi hea hl' (fun _ => rfl) (by decide)
      obtain ⟨b1, hb1⟩ : ∃ y_, y_ = inR x.tag 0 255 := ⟨_, rfl⟩
      obtain ⟨b2, hb2⟩ : ∃ y_, y_ = decide (4 < x.body.length) := ⟨_, rfl⟩
      obtain ⟨b3, hb3⟩ : ∃ y_, y_ = bytes x.body := ⟨_, rfl⟩
      obtain ⟨b4, hb4⟩ : ∃ y_, y_ = pre.any (tagP x.tag) := ⟨_, rfl⟩
      obtain ⟨ep, hep⟩ : ∃ y_, y_ = row fExt pre := ⟨_, rfl⟩
      obtain ⟨v, hv⟩ : ∃ y_, y_ = extOf pre x.tag := ⟨_, rfl⟩
      have g4 : gt (len e1) 4 = b2 := by rw [hb2]; exact F.gt_n l1 rfl
      have c1 : o 232 [I x.tag, I 0, I 255] = some ⟨[B b1], [], none⟩ := by rw [ho, hb1]; exact ok232 ..
      have c3 : o 233 [R e1 (.sp 0 0), I 0, I 255] = some ⟨[B b3], [], none⟩ := by rw [ho, hb3, he1]; exact ok233 _ _ _ hx rfl
      have c4 : o 290 [R ep (.sp 0 0), I x.tag] = some ⟨[I v], [], none⟩ := by rw [ho, hv, hep]; exact ok290 _ _ hpre rfl
      have g5 : ge v 0 = b4 := by rw [F.ge, hv, hb4]; exact ixOf_ge (tagP x.tag) pre 0 (by decide)
      have hT' : T = (b1 && !b2 && b3 && !b4 && exOk (pre ++ [x]) suf) := by rw [← hb, hb1, hb2, hb3, hb4]; rfl
      obtain ⟨n, hn⟩ : ∃ y_, y_ = pre.length := ⟨_, rfl⟩
      have q1 : bd (ln ea) i = some n := by rw [F.ln' hea, hn]; exact F.bd' hi (by rw [hl']; simp)
      have q2 : cut 2 ea n 0 = some ep := by rw [F.cut' hea (fun _ => rfl), hep, hl', hn]; simp
      rw [F.lt_t hi la (by simp [hl'])]; cbv
      rw [p0]; cbv
      rw [c1]; cbv
      refine both (fun d1 => ?_) (fun d1 => ?_) <;> rw [d1] <;> cbv
      · rw [hQ1]; cbv
        rw [hQ]; cbv
        rw [← hr, show T = false by rw [hT', F.not_t d1]; rfl]; rfl
      rw [q1]; cbv
      rw [q2]; cbv
      rw [c4]; cbv
      rw [g5]; cbv
      refine both (fun d4 => ?_) (fun d4 => ?_) <;> rw [d4] <;> cbv
      · rw [hQ1]; cbv
        rw [hQ]; cbv
        rw [← hr, show T = false by rw [hT', d4]; simp]; rfl
      rw [g4]; cbv
      refine both (fun d2 => ?_) (fun d2 => ?_) <;> rw [d2] <;> cbv
      · rw [hQ1]; cbv
        rw [hQ]; cbv
        rw [← hr, show T = false by rw [hT', d2]; simp]; rfl
      rw [c3]; cbv
      refine both (fun d3 => ?_) (fun d3 => ?_) <;> rw [d3] <;> cbv
      · rw [hQ1]; cbv
        rw [hQ]; cbv
        rw [← hr, show T = false by rw [hT', F.not_t d3]; simp]; rfl
      refine ih (suf, pre ++ [x], add .i64 i 1, some (i, x.tag, e1)) ⟨at_len (F.inc hi (by omega)) (by simp), by simp [hl'], ?_⟩ (by simp)
      rw [hT', F.not_f d1, d2, F.not_f d3, d4]; simp

/- impl.IsHello -/
theorem ok113 (h : Hello) (hv : h.versions.length ≤ 1099511627776) (hl : h.exts.length ≤ 1099511627776) (w : ∀ y ∈ h.exts, y.body.length ≤ 1099511627776) {f0 f1 : Fl} (h0 : inFl f0 = true) (h1 : inFl f1 = true) : fix Tb md 113 [sHello (row fI h.versions) (row fExt h.exts) f0 f1] = some ⟨[B (isHel h)], [], none⟩ := by
  obtain ⟨a, ha⟩ : ∃ y_, y_ = areVer h.versions := ⟨_, rfl⟩
  obtain ⟨b, hb⟩ : ∃ y_, y_ = areEx h.exts := ⟨_, rfl⟩
  rw [show isHel h = (a && b) by rw [ha, hb]; rfl]
  generalize hr : (⟨_, [], none⟩ : Ret) = r
  obtain ⟨ea, hea⟩ : ∃ y_, y_ = row fI h.versions := ⟨_, rfl⟩
  obtain ⟨eb, heb⟩ : ∃ y_, y_ = row fExt h.exts := ⟨_, rfl⟩
  rw [← hea, ← heb]
  refine fix_fn2 (fn := ir113) tb_113 rfl rfl (by decide) rfl ?_; intro Q hQ; simp only [shutArgs, shutS, List.map_cons, List.map_nil, ir113, shut_in h0, shut_in h1, List.head?_nil, reduceCtorEq, if_false, sExt, sHello, sAnswer, sEdit, sDeal, sBox, sDialed, sKnown]
  intro add sub mul arith eq ne lt le gt ge neg conv mn mx not beq len at' ln bd cut app allS isNil mks set o hP F ho
  have c1 : o 255 [R ea (.sp 0 0)] = some ⟨[B a], [], none⟩ := by rw [ho, ha, hea]; exact ok255 _ hv rfl
  have c2 : o 258 [R eb (.sp 0 0)] = some ⟨[B b], [], none⟩ := by rw [ho, hb, heb]; exact ok258 _ hl w rfl
  cbv
  rw [c1]; cbv
  refine both (fun d1 => ?_) (fun d1 => ?_) <;> rw [d1] <;> cbv
  · rw [c2]; cbv
    rw [hQ]; cbv
    rw [← hr, d1]; rfl
  · rw [hQ]; cbv
    rw [← hr, d1]; rfl

/- impl.IsAnswer -/
theorem ok118 (v : Int) (l : List Ext) (hl : l.length ≤ 1099511627776) (w : ∀ y ∈ l, y.body.length ≤ 1099511627776) {f0 : Fl} (h0 : inFl f0 = true) : fix Tb md 118 [sAnswer v (row fExt l) f0] = some ⟨[B (isAns v l)], [], none⟩ := by
  obtain ⟨a, ha⟩ : ∃ y_, y_ = inR v 1 9 := ⟨_, rfl⟩
  obtain ⟨b, hb⟩ : ∃ y_, y_ = areEx l := ⟨_, rfl⟩
  rw [show isAns v l = (a && b) by rw [ha, hb]; rfl]
  generalize hr : (⟨_, [], none⟩ : Ret) = r
  obtain ⟨ea, hea⟩ : ∃ y_, y_ = row fExt l := ⟨_, rfl⟩
  rw [← hea]
  refine fix_fn2 (fn := ir118) tb_118 rfl rfl (by decide) rfl ?_; intro Q hQ; simp only [shutArgs, shutS, List.map_cons, List.map_nil, ir118, shut_in h0, List.head?_nil, reduceCtorEq, if_false, sExt, sHello, sAnswer, sEdit, sDeal, sBox, sDialed, sKnown]
  intro add sub mul arith eq ne lt le gt ge neg conv mn mx not beq len at' ln bd cut app allS isNil mks set o hP F ho
  have c1 : o 232 [I v, I 1, I 9] = some ⟨[B a], [], none⟩ := by rw [ho, ha]; exact ok232 ..
  have c2 : o 258 [R ea (.sp 0 0)] = some ⟨[B b], [], none⟩ := by rw [ho, hb, hea]; exact ok258 _ hl w rfl
  cbv
  rw [c1]; cbv
  refine both (fun d1 => ?_) (fun d1 => ?_) <;> rw [d1] <;> cbv
  · rw [c2]; cbv
    rw [hQ]; cbv
    rw [← hr, d1]; rfl
  · rw [hQ]; cbv
    rw [← hr, d1]; rfl

/- spec.EqualInts -/
theorem ok228 (a b : List Int) (hl : a.length ≤ 1099511627776) {f0 f1 : Fl} (h0 : inFl f0 = true) (h1 : inFl f1 = true) : fix Tb md 228 [R (row fI a) f0, R (row fI b) f1] = some ⟨[B (decide (a = b))], [], none⟩ := by
  refine fix_fn (fn := ir228) tb_228 rfl rfl (by decide) rfl ?_; simp only [shutArgs, shutS, List.map_cons, List.map_nil, ir228, shut_in h0, shut_in h1, List.head?_nil, reduceCtorEq, if_false, sExt, sHello, sAnswer, sEdit, sDeal, sBox, sDialed, sKnown]
  generalize hr : (⟨_, [], none⟩ : Ret) = r
  obtain ⟨ea, hea⟩ : ∃ y_, y_ = row fI a := ⟨_, rfl⟩
  obtain ⟨eb, heb⟩ : ∃ y_, y_ = row fI b := ⟨_, rfl⟩
  rw [← hea, ← heb]
  intro add sub mul arith eq ne lt le gt ge neg conv mn mx not beq len at' ln bd cut app allS isNil mks set o hP F ho
  have la := F.len_at hea
  have lb := F.len_at heb
  cbv
  by_cases hab : a.length = b.length
  · rw [F.ne_f (by unfold At at la lb; omega)]; cbv
    refine loop_ind hP (σ := List Int × List Int × List Int × Int) (fun s => [(0, R ea .sh), (1, R eb .sh), (4, B false), (5, I s.2.2.2)]) (fun s => At s.2.2.2 s.1.length ∧ a = s.1 ++ s.2.1 ∧ b = s.1 ++ s.2.2.1) (fun s => s.2.1.length) ([], a, b, 0) rfl ⟨rfl, rfl, rfl⟩ ?_
    rintro ⟨pre, sa, sb, i⟩ ⟨hi, ha, hb⟩ ih
    simp only at hi ha hb ih
    cbv
    have hlen : sa.length = sb.length := by simp [ha, hb] at hab; exact hab
    match sa, sb, hlen, ha, hb with
    | [], [], _, ha, hb =>
      rw [F.lt_f hi la (by simp [ha])]; cbv
      rw [← hr]; simp [ha, hb]
    | x :: sa, y :: sb, _, ha, hb =>
      rw [F.lt_t hi la (by simp [ha])]; cbv
      obtain ⟨ix, hix⟩ : ∃ y_, y_ = pre.length * 1 := ⟨_, rfl⟩
      rw [show at' 1 ea i = some (ix, [.int .i64 x]) by rw [hix]; exact F.get hi hea ha (fun _ => rfl) (by decide)]; cbv
      rw [show at' 1 eb i = some (ix, [.int .i64 y]) by rw [hix]; exact F.get hi heb hb (fun _ => rfl) (by decide)]; cbv
      by_cases hxy : x = y
      · rw [F.ne_f hxy]; cbv
        refine ih (pre ++ [x], sa, sb, add .i64 i 1) ⟨at_len (F.inc hi (by simp [ha] at hl; omega)) (by simp), by simp [ha], by simp [hb, hxy]⟩ (by simp)
      · rw [F.ne_t hxy]; cbv
        rw [← hr]; simp [ha, hb, hxy]
  · rw [F.ne_t (by unfold At at la lb; omega)]; cbv
    rw [← hr]
    simp
    intro e; exact hab (by rw [e])

/- spec.IsPartOf -/
def bodyOk (l : List Ext) (e : Ext) : Bool := match l.find? (tagP e.tag) with | none => false | some d => decide (d.body = e.body)
def isPart (x h : Hello) : Bool := x.versions.all (hasI h.versions) && x.exts.all (bodyOk h.exts)
theorem ixOf_find {α : Type} (p : α → Bool) : ∀ (l : List α) (i : Int), (l.find? p = none ∧ ixOf p l i = -1) ∨ ∃ (pre : List α) (d : α) (suf : List α), l = pre ++ d :: suf ∧ ixOf p l i = i + (pre.length : Int) ∧ l.find? p = some d
  | [], i => .inl ⟨rfl, rfl⟩
  | x :: l, i => by
    by_cases hx : p x = true
    · exact .inr ⟨[], x, l, rfl, by unfold ixOf; rw [if_pos hx]; simp, by rw [List.find?_cons, hx]⟩
    · have hx' : p x = false := by simpa using hx
      rcases ixOf_find p l (i + 1) with ⟨h1, h2⟩ | ⟨pre, d, suf, h1, h2, h3⟩
      · exact .inl ⟨by rw [List.find?_cons, hx']; exact h1, by unfold ixOf; rw [if_neg hx]; exact h2⟩
      · exact .inr ⟨x :: pre, d, suf, by rw [h1]; rfl, by unfold ixOf; rw [if_neg hx, h2]; simp; omega, by rw [List.find?_cons, hx']; exact h3⟩
theorem extOf_find (l : List Ext) (t : Int) : (l.find? (tagP t) = none ∧ extOf l t = -1) ∨ ∃ (pre : List Ext) (d : Ext) (suf : List Ext), l = pre ++ d :: suf ∧ At (extOf l t) pre.length ∧ 0 ≤ extOf l t ∧ l.find? (tagP t) = some d := by
  rcases ixOf_find (tagP t) l 0 with ⟨h1, h2⟩ | ⟨pre, d, suf, h1, h2, h3⟩
  · exact .inl ⟨h1, h2⟩
  · refine .inr ⟨pre, d, suf, h1, ?_, ?_, h3⟩
    · unfold At; unfold extOf; rw [h2]; simp
    · unfold extOf; rw [h2]; omega
theorem ok147 (x h : Hello) (hvx : x.versions.length ≤ 1099511627776) (hv2 : h.versions.length ≤ 1099511627776) (hl : x.exts.length ≤ 1099511627776) (hl2 : h.exts.length ≤ 1099511627776) (w : ∀ y ∈ x.exts, y.body.length ≤ 1099511627776) (w2 : ∀ y ∈ h.exts, y.body.length ≤ 1099511627776) {f0 f1 f2 f3 : Fl} (q0 : inFl f0 = true) (q1 : inFl f1 = true) (q2 : inFl f2 = true) (q3 : inFl f3 = true) : fix Tb md 147 [sHello (row fI x.versions) (row fExt x.exts) f0 f1, sHello (row fI h.versions) (row fExt h.exts) f2 f3] = some ⟨[B (isPart x h)], [], none⟩ := by
  obtain ⟨T1, hT1⟩ : ∃ y_, y_ = x.versions.all (hasI h.versions) := ⟨_, rfl⟩
  obtain ⟨T2, hT2⟩ : ∃ y_, y_ = x.exts.all (bodyOk h.exts) := ⟨_, rfl⟩
  rw [show isPart x h = (T1 && T2) by rw [hT1, hT2]; rfl]
  generalize hr : (⟨_, [], none⟩ : Ret) = r
  obtain ⟨ev, hev⟩ : ∃ y_, y_ = row fI x.versions := ⟨_, rfl⟩
  obtain ⟨ex, hex⟩ : ∃ y_, y_ = row fExt x.exts := ⟨_, rfl⟩
  obtain ⟨dv, hdv⟩ : ∃ y_, y_ = row fI h.versions := ⟨_, rfl⟩
  obtain ⟨dx, hdx⟩ : ∃ y_, y_ = row fExt h.exts := ⟨_, rfl⟩
  rw [← hev, ← hex, ← hdv, ← hdx]
  refine fix_fn2 (fn := ir147) tb_147 rfl rfl (by decide) rfl ?_; intro Q hQ; simp only [shutArgs, shutS, List.map_cons, List.map_nil, ir147, shut_in q0, shut_in q1, shut_in q2, shut_in q3, List.head?_nil, reduceCtorEq, if_false, sExt, sHello, sAnswer, sEdit, sDeal, sBox, sDialed, sKnown]
  intro add sub mul arith eq ne lt le gt ge neg conv mn mx not beq len at' ln bd cut app allS isNil mks set o hP F ho
  have lv := F.len_at hev
  have lx := F.len_at hex
  cbv
  refine loop_ind2 hP (σ := List Int × List Int × Int) (fun s => [(0, sHello ev ex .sh .sh), (1, sHello dv dx .sh .sh), (2, ⟨.ptr 60 0, []⟩), (3, ⟨.ptr 61 0, []⟩), (4, B false), (5, I s.2.2), (60, ⟨.box (), [⟨.row () ev, .sh⟩, ⟨.row () ex, .sh⟩]⟩), (61, ⟨.box (), [⟨.row () dv, .sh⟩, ⟨.row () dx, .sh⟩]⟩)]) (fun s => At s.2.2 s.2.1.length ∧ x.versions = s.2.1 ++ s.1 ∧ s.1.all (hasI h.versions) = T1) (fun s => s.1.length) (x.versions, [], 0) rfl ⟨rfl, rfl, hT1.symm⟩ ?_
  intro c1 Q1 hc1 hQ1
  rintro ⟨suf, pre, i⟩ ⟨hi, hl', hb⟩ ih
  simp only at hi hl' hb ih
  cbv
  cases suf with
  | cons y suf =>
    obtain ⟨v, hv⟩ : ∃ y_, y_ = hasI h.versions y := ⟨_, rfl⟩
    have hT' : T1 = (v && suf.all (hasI h.versions)) := by rw [← hb, hv]; rfl
    have c2 : o 285 [R dv (.sp 0 0), I y] = some ⟨[B v], [], none⟩ := by rw [ho, hv, hdv]; exact ok285 _ _ hv2 rfl
    rw [F.lt_t hi lv (by simp [hl'])]; cbv
    obtain ⟨ix, hix⟩ : ∃ y_, y_ = pre.length * 1 := ⟨_, rfl⟩
    rw [show at' 1 ev i = some (ix, [.int .i64 y]) by rw [hix]; exact F.get hi hev hl' (fun _ => rfl) (by decide)]; cbv
    rw [c2]; cbv
    refine both (fun d => ?_) (fun d => ?_) <;> rw [d] <;> cbv
    · rw [hQ1]; cbv
      rw [hQ]; cbv
      rw [← hr, hT', F.not_t d]; rfl
    · refine ih (suf, pre ++ [y], add .i64 i 1) ⟨at_len (F.inc hi (by simp [hl'] at hvx; omega)) (by simp), by simp [hl'], ?_⟩ (by simp)
      rw [hT', F.not_f d]; rfl
  | nil =>
    have hT1' : T1 = true := by rw [← hb]; rfl
    rw [F.lt_f hi lv (by simp [hl'])]; cbv
    rw [hQ1]; cbv
    clear ih hb hl'
    refine loop_ind2 hP (σ := List Ext × List Ext × Int × Option Int) (fun s => match s.2.2.2 with | none => [(0, sHello ev ex .sh .sh), (1, sHello dv dx .sh .sh), (2, ⟨.ptr 60 0, []⟩), (3, ⟨.ptr 61 0, []⟩), (4, B false), (5, I i), (6, I s.2.2.1), (60, ⟨.box (), [⟨.row () ev, .sh⟩, ⟨.row () ex, .sh⟩]⟩), (61, ⟨.box (), [⟨.row () dv, .sh⟩, ⟨.row () dx, .sh⟩]⟩)] | some j => [(0, sHello ev ex .sh .sh), (1, sHello dv dx .sh .sh), (2, ⟨.ptr 60 0, []⟩), (3, ⟨.ptr 61 0, []⟩), (4, B false), (5, I i), (6, I s.2.2.1), (7, I j), (60, ⟨.box (), [⟨.row () ev, .sh⟩, ⟨.row () ex, .sh⟩]⟩), (61, ⟨.box (), [⟨.row () dv, .sh⟩, ⟨.row () dx, .sh⟩]⟩)]) (fun s => At s.2.2.1 s.2.1.length ∧ x.exts = s.2.1 ++ s.1 ∧ s.1.all (bodyOk h.exts) = T2) (fun s => s.1.length) (x.exts, [], 0, none) rfl ⟨rfl, rfl, hT2.symm⟩ ?_
    intro c2 Q2 hc2 hQ2
    rintro ⟨suf, pre, k, j⟩ ⟨hi, hl', hb⟩ ih
    simp only at hi hl' hb ih
    cases j with
    | none =>
      cbv
      cases suf with
      | nil =>
        rw [F.lt_f hi lx (by simp [hl'])]; cbv
        rw [hQ2]; cbv
        rw [hQ]; cbv
        rw [← hr, hT1', ← hb]; rfl
      | cons y suf =>
        have hy := w y (by rw [hl']; simp)
        obtain ⟨u, hu⟩ : ∃ y_, y_ = bodyOk h.exts y := ⟨_, rfl⟩
        have hT' : T2 = (u && suf.all (bodyOk h.exts)) := by rw [← hb, hu]; rfl
        obtain ⟨v, hvv⟩ : ∃ y_, y_ = extOf h.exts y.tag := ⟨_, rfl⟩
        obtain ⟨ix, hix⟩ : ∃ y_, y_ = pre.length * 2 := ⟨_, rfl⟩
        obtain ⟨e1, he1⟩ : ∃ y_, y_ = row fI y.body := ⟨_, rfl⟩
        have hi' : At (add .i64 k 1) (pre ++ [y]).length := at_len (F.inc hi (by simp [hl'] at hl; omega)) (by simp)
        have hl2' : x.exts = (pre ++ [y]) ++ suf := by rw [hl']; simp
        have p0 : at' 2 ex k = some (ix, [.int .i64 y.tag, .row () e1]) := by rw [hix, he1]; exact F.get hi hex hl' (fun _ => rfl) (by decide)
        have c3 : o 286 [R dx (.sp 0 0), I y.tag] = some ⟨[I v], [], none⟩ := by rw [ho, hvv, hdx]; exact ok286 _ _ hl2 rfl
        rcases extOf_find h.exts y.tag with ⟨n1, n2⟩ | ⟨p', d, s', n1, n2, n3, n4⟩
        · have hu' : u = false := by rw [hu, bodyOk, n1]
          have g1 : lt v 0 = true := by rw [F.lt, hvv, n2]; rfl
          rw [F.lt_t hi lx (by simp [hl'])]; cbv
          rw [p0]; cbv
          rw [c3]; cbv
          rw [g1]; cbv
          rw [hQ2]; cbv
          rw [hQ]; cbv
          rw [← hr, hT', hu']; simp
        · have g1 : lt v 0 = false := by rw [F.lt, hvv]; simp; exact n3
          rw [← hvv] at n2
          obtain ⟨iy, hiy⟩ : ∃ y_, y_ = p'.length * 2 := ⟨_, rfl⟩
          obtain ⟨e2, he2⟩ : ∃ y_, y_ = row fI d.body := ⟨_, rfl⟩
          have p1 : at' 2 dx v = some (iy, [.int .i64 d.tag, .row () e2]) := by rw [hiy, he2]; exact F.get n2 hdx n1 (fun _ => rfl) (by decide)
          have hu' : u = decide (d.body = y.body) := by rw [hu, bodyOk, n4]
          have c4 : o 228 [R e2 (.sp 0 0), R e1 (.sp 1 0)] = some ⟨[B u], [], none⟩ := by rw [ho, hu', he1, he2]; exact ok228 _ _ (w2 d (by rw [n1]; simp)) rfl rfl
          rw [F.lt_t hi lx (by simp [hl'])]; cbv
          rw [p0]; cbv
          rw [c3]; cbv
          rw [g1]; cbv
          rw [p1]; cbv
          rw [p0]; cbv
          rw [c4]; cbv
          refine both (fun d2 => ?_) (fun d2 => ?_) <;> rw [d2] <;> cbv
          · rw [hQ2]; cbv
            rw [hQ]; cbv
            rw [← hr, hT', F.not_t d2]; simp
          · refine ih (suf, pre ++ [y], add .i64 k 1, some v) ⟨hi', hl2', ?_⟩ (by simp)
            rw [hT', F.not_f d2]; rfl
    | some jj =>
      cbv
      cases suf with
      | nil =>
        rw [F.lt_f hi lx (by simp [hl'])]; cbv
        rw [hQ2]; cbv
        rw [hQ]; cbv
        rw [← hr, hT1', ← hb]; rfl
      | cons y suf =>
        have hy := w y (by rw [hl']; simp)
        obtain ⟨u, hu⟩ : ∃ y_, y_ = bodyOk h.exts y := ⟨_, rfl⟩
        have hT' : T2 = (u && suf.all (bodyOk h.exts)) := by rw [← hb, hu]; rfl
        obtain ⟨v, hvv⟩ : ∃ y_, y_ = extOf h.exts y.tag := ⟨_, rfl⟩
        obtain ⟨ix, hix⟩ : ∃ y_, y_ = pre.length * 2 := ⟨_, rfl⟩
        obtain ⟨e1, he1⟩ : ∃ y_, y_ = row fI y.body := ⟨_, rfl⟩
        have hi' : At (add .i64 k 1) (pre ++ [y]).length := at_len (F.inc hi (by simp [hl'] at hl; omega)) (by simp)
        have hl2' : x.exts = (pre ++ [y]) ++ suf := by rw [hl']; simp
        have p0 : at' 2 ex k = some (ix, [.int .i64 y.tag, .row () e1]) := by rw [hix, he1]; exact F.get hi hex hl' (fun _ => rfl) (by decide)
        have c3 : o 286 [R dx (.sp 0 0), I y.tag] = some ⟨[I v], [], none⟩ := by rw [ho, hvv, hdx]; exact ok286 _ _ hl2 rfl
        rcases extOf_find h.exts y.tag with ⟨n1, n2⟩ | ⟨p', d, s', n1, n2, n3, n4⟩
        · have hu' : u = false := by rw [hu, bodyOk, n1]
          have g1 : lt v 0 = true := by rw [F.lt, hvv, n2]; rfl
          rw [F.lt_t hi lx (by simp [hl'])]; cbv
          rw [p0]; cbv
          rw [c3]; cbv
          rw [g1]; cbv
          rw [hQ2]; cbv
          rw [hQ]; cbv
          rw [← hr, hT', hu']; simp
        · have g1 : lt v 0 = false := by rw [F.lt, hvv]; simp; exact n3
          rw [← hvv] at n2
          obtain ⟨iy, hiy⟩ : ∃ y_, y_ = p'.length * 2 := ⟨_, rfl⟩
          obtain ⟨e2, he2⟩ : ∃ y_, y_ = row fI d.body := ⟨_, rfl⟩
          have p1 : at' 2 dx v = some (iy, [.int .i64 d.tag, .row () e2]) := by rw [hiy, he2]; exact F.get n2 hdx n1 (fun _ => rfl) (by decide)
          have hu' : u = decide (d.body = y.body) := by rw [hu, bodyOk, n4]
          have c4 : o 228 [R e2 (.sp 0 0), R e1 (.sp 1 0)] = some ⟨[B u], [], none⟩ := by rw [ho, hu', he1, he2]; exact ok228 _ _ (w2 d (by rw [n1]; simp)) rfl rfl
          rw [F.lt_t hi lx (by simp [hl'])]; cbv
          rw [p0]; cbv
          rw [c3]; cbv
          rw [g1]; cbv
          rw [p1]; cbv
          rw [p0]; cbv
          rw [c4]; cbv
          refine both (fun d2 => ?_) (fun d2 => ?_) <;> rw [d2] <;> cbv
          · rw [hQ2]; cbv
            rw [hQ]; cbv
            rw [← hr, hT', F.not_t d2]; simp
          · refine ih (suf, pre ++ [y], add .i64 k 1, some v) ⟨hi', hl2', ?_⟩ (by simp)
            rw [hT', F.not_f d2]; rfl

/- spec.l21Left -/
def notIn (b : List Int) (x : Int) : Bool := !hasI b x
theorem ok292 (l b : List Int) (hl : l.length ≤ 1073741824) (hb' : b.length ≤ 1073741824) {f0 f1 : Fl} (h0 : inFl f0 = true) (h1 : inFl f1 = true) : fix Tb md 292 [R (row fI l) f0, R (row fI b) f1] = some ⟨[R (row fI (sel (notIn b) idI l)) (.ow false)], [], none⟩ := by
  obtain ⟨et, het⟩ : ∃ y_, y_ = row fI (sel (notIn b) idI l) := ⟨_, rfl⟩
  rw [← het]
  generalize hr : (⟨_, [], none⟩ : Ret) = r
  obtain ⟨ea, hea⟩ : ∃ y_, y_ = row fI l := ⟨_, rfl⟩
  obtain ⟨eb, heb⟩ : ∃ y_, y_ = row fI b := ⟨_, rfl⟩
  rw [← hea, ← heb]
  refine fix_fn2 (fn := ir292) tb_292 rfl rfl (by decide) rfl ?_; intro Q hQ; simp only [shutArgs, shutS, List.map_cons, List.map_nil, ir292, shut_in h0, shut_in h1, List.head?_nil, reduceCtorEq, if_false, sExt, sHello, sAnswer, sEdit, sDeal, sBox, sDialed, sKnown]
  intro add sub mul arith eq ne lt le gt ge neg conv mn mx not beq len at' ln bd cut app allS isNil mks set o hP F ho
  have la := F.len_at hea
  cbv
  refine loop_ind2 hP (σ := List Int × List Int × List (List V) × Int) (fun s => [(0, R ea .sh), (1, R eb .sh), (4, R [] .nl), (5, R s.2.2.1 (.ow false)), (6, I s.2.2.2)]) (fun s => At s.2.2.2 s.2.1.length ∧ l = s.2.1 ++ s.1 ∧ s.2.2.1 = row fI (sel (notIn b) idI s.2.1)) (fun s => s.1.length) (l, [], [], 0) rfl ⟨rfl, rfl, rfl⟩ ?_
  intro c1 Q1 hc1 hQ1
  rintro ⟨suf, pre, eo, i⟩ ⟨hi, hl', hb⟩ ih
  simp only at hi hl' hb ih
  cbv
  cases suf with
  | nil =>
    rw [F.lt_f hi la (by simp [hl'])]; cbv
    rw [hQ1]; cbv
    rw [hQ]; cbv
    rw [← hr, het, hb, hl', List.append_nil]
  | cons x suf =>
    obtain ⟨ix, hix⟩ : ∃ y_, y_ = pre.length * 1 := ⟨_, rfl⟩
    have hpre : pre.length ≤ 1073741824 := by rw [hl'] at hl; simp at hl; omega
    have hs : (sel (notIn b) idI pre).length ≤ pre.length := sel_len
    have hi' : At (add .i64 i 1) (pre ++ [x]).length := at_len (F.inc hi (by omega)) (by simp)
    have hl2 : l = (pre ++ [x]) ++ suf := by rw [hl']; simp
    have hmem : x ∈ l := by rw [hl']; simp
    have p0 : at' 1 ea i = some (ix, [.int .i64 x]) := by rw [hix]; exact F.get hi hea hl' (fun _ => rfl) (by decide)
    obtain ⟨v, hv⟩ : ∃ y_, y_ = hasI b x := ⟨_, rfl⟩
    have hP : notIn b x = !v := by rw [hv]; rfl
    have c2 : o 285 [R eb (.sp 0 0), I x] = some ⟨[B v], [], none⟩ := by rw [ho, hv, heb]; exact ok285 _ _ (by omega) rfl
    rw [F.lt_t hi la (by simp [hl'])]; cbv
    rw [p0]; cbv
    rw [c2]; cbv
    refine both (fun d => ?_) (fun d => ?_) <;> rw [d] <;> cbv
    · rw [p0]; cbv
      rw [show allS [[.int .i64 x]] = true by rw [F.allS]; rfl]; cbv
      obtain ⟨eo', heo'⟩ : ∃ y_, y_ = row fI (sel (notIn b) idI pre ++ [idI x]) := ⟨_, rfl⟩
      rw [show app 1 eo [[.int .i64 x]] = some eo' by rw [heo']; exact F.push hb (fun _ => rfl) rfl (by omega)]; cbv
      refine ih (suf, pre ++ [x], eo', add .i64 i 1) ⟨hi', hl2, by simp only; rw [heo', sel_t (by rw [hP, F.not_t d]; rfl)]⟩ (by simp)
    · refine ih (suf, pre ++ [x], eo, add .i64 i 1) ⟨hi', hl2, by simp only; rw [hb, sel_f (by rw [hP, F.not_f d]; rfl)]⟩ (by simp)

/- slices.Index[[]int,int] -/
theorem hasI_ix (l : List Int) (n : Int) : decide (0 ≤ ixOf (fun y => decide (y = n)) l 0) = hasI l n := ixOf_ge _ l 0 (by decide)
theorem ok354 (l : List Int) (n : Int) (hl : l.length ≤ 1099511627776) {f0 : Fl} (h0 : inFl f0 = true) : fix Tb md 354 [R (row fI l) f0, I n] = some ⟨[I (ixOf (fun y => decide (y = n)) l 0)], [], none⟩ := by
  obtain ⟨T, hT⟩ : ∃ y_, y_ = ixOf (fun y => decide (y = n)) l 0 := ⟨_, rfl⟩
  rw [← hT]
  generalize hr : (⟨_, [], none⟩ : Ret) = r
  obtain ⟨ea, hea⟩ : ∃ y_, y_ = row fI l := ⟨_, rfl⟩
  rw [← hea]
  refine fix_fn2 (fn := ir354) tb_354 rfl rfl (by decide) rfl ?_; intro Q hQ; simp only [shutArgs, shutS, List.map_cons, List.map_nil, ir354, shut_in h0, List.head?_nil, reduceCtorEq, if_false, sExt, sHello, sAnswer, sEdit, sDeal, sBox, sDialed, sKnown]
  intro add sub mul arith eq ne lt le gt ge neg conv mn mx not beq len at' ln bd cut app allS isNil mks set o hP F ho
  have la := F.len_at hea
  cbv
  refine loop_ind2 hP (σ := List Int × List Int × Int × Option Int) (fun s => match s.2.2.2 with | none => [(0, R ea .sh), (1, I n), (4, I 0), (7, I (len ea)), (8, I s.2.2.1)] | some j => [(0, R ea .sh), (1, I n), (4, I 0), (5, I j), (7, I (len ea)), (8, I s.2.2.1)]) (fun s => At s.2.2.1 s.2.1.length ∧ l = s.2.1 ++ s.1 ∧ ixOf (fun y => decide (y = n)) s.1 s.2.2.1 = T) (fun s => s.1.length) (l, [], 0, none) rfl ⟨rfl, rfl, hT.symm⟩ ?_
  intro c1 Q1 hc1 hQ1
  rintro ⟨suf, pre, i, j⟩ ⟨hi, hl', hb⟩ ih
  simp only at hi hl' hb ih
  have hpre : pre.length ≤ 1099511627776 := by rw [hl'] at hl; simp at hl; omega
  cases j with
  | none =>
    cbv
    cases suf with
    | nil =>
      rw [F.lt_f hi la (by simp [hl'])]; cbv
      rw [hQ1]; cbv
      rw [hQ]; cbv
      rw [← hr, ← hb]; rfl
    | cons x suf =>
      obtain ⟨v, hv⟩ : ∃ y_, y_ = decide (x = n) := ⟨_, rfl⟩
      have hb' : T = if v = true then i else ixOf (fun y => decide (y = n)) suf (i + 1) := by rw [← hb, hv]; rfl
      have hinc : add .i64 i 1 = i + 1 := by unfold At at hi; rw [F.add, hi, wrap64 (by omega) (by omega)]
      obtain ⟨ix, hix⟩ : ∃ y_, y_ = pre.length * 1 := ⟨_, rfl⟩
      rw [F.lt_t hi la (by simp [hl'])]; cbv
      rw [show at' 1 ea i = some (ix, [.int .i64 x]) by rw [hix]; exact F.get hi hea hl' (fun _ => rfl) (by decide)]; cbv
      rw [show eq n x = v by rw [F.eq, hv]; exact decide_eq_decide.2 eq_comm]; cbv
      refine both (fun d => ?_) (fun d => ?_) <;> rw [d] <;> cbv
      · rw [hQ1]; cbv
        rw [hQ]; cbv
        rw [← hr, hb', if_pos d]
      · refine ih (suf, pre ++ [x], add .i64 i 1, some i) ⟨at_len (F.inc hi (by omega)) (by simp), by simp [hl'], ?_⟩ (by simp)
        rw [hb', if_neg (by rw [d]; decide), hinc]
  | some jj =>
    cbv
    cases suf with
    | nil =>
      rw [F.lt_f hi la (by simp [hl'])]; cbv
      rw [hQ1]; cbv
      rw [hQ]; cbv
      rw [← hr, ← hb]; rfl
    | cons x suf =>
      obtain ⟨v, hv⟩ : ∃ y_, y_ = decide (x = n) := ⟨_, rfl⟩
      have hb' : T = if v = true then i else ixOf (fun y => decide (y = n)) suf (i + 1) := by rw [← hb, hv]; rfl
      have hinc : add .i64 i 1 = i + 1 := by unfold At at hi; rw [F.add, hi, wrap64 (by omega) (by omega)]
      obtain ⟨ix, hix⟩ : ∃ y_, y_ = pre.length * 1 := ⟨_, rfl⟩
      rw [F.lt_t hi la (by simp [hl'])]; cbv
      rw [show at' 1 ea i = some (ix, [.int .i64 x]) by rw [hix]; exact F.get hi hea hl' (fun _ => rfl) (by decide)]; cbv
      rw [show eq n x = v by rw [F.eq, hv]; exact decide_eq_decide.2 eq_comm]; cbv
      refine both (fun d => ?_) (fun d => ?_) <;> rw [d] <;> cbv
      · rw [hQ1]; cbv
        rw [hQ]; cbv
        rw [← hr, hb', if_pos d]
      · refine ih (suf, pre ++ [x], add .i64 i 1, some i) ⟨at_len (F.inc hi (by omega)) (by simp), by simp [hl'], ?_⟩ (by simp)
        rw [hb', if_neg (by rw [d]; decide), hinc]

/- slices.Contains[[]int,int] -/
theorem ok302 (l : List Int) (n : Int) (hl : l.length ≤ 1099511627776) {f0 : Fl} (h0 : inFl f0 = true) : fix Tb md 302 [R (row fI l) f0, I n] = some ⟨[B (hasI l n)], [], none⟩ := by
  rw [← hasI_ix]
  obtain ⟨v, hv⟩ : ∃ y_, y_ = ixOf (fun y => decide (y = n)) l 0 := ⟨_, rfl⟩
  rw [← hv]
  generalize hr : (⟨_, [], none⟩ : Ret) = r
  obtain ⟨ea, hea⟩ : ∃ y_, y_ = row fI l := ⟨_, rfl⟩
  rw [← hea]
  refine fix_fn2 (fn := ir302) tb_302 rfl rfl (by decide) rfl ?_; intro Q hQ; simp only [shutArgs, shutS, List.map_cons, List.map_nil, ir302, shut_in h0, List.head?_nil, reduceCtorEq, if_false, sExt, sHello, sAnswer, sEdit, sDeal, sBox, sDialed, sKnown]
  intro add sub mul arith eq ne lt le gt ge neg conv mn mx not beq len at' ln bd cut app allS isNil mks set o hP F ho
  have c1 : o 354 [R ea (.sp 0 0), I n] = some ⟨[I v], [], none⟩ := by rw [ho, hv, hea]; exact ok354 _ _ hl rfl
  cbv
  rw [c1]; cbv
  rw [hQ]; cbv
  rw [← hr, F.ge]

/- impl.without -/
theorem ok287 (l b : List Int) (hl : l.length ≤ 1073741824) (hb' : b.length ≤ 1073741824) {f0 f1 : Fl} (h0 : inFl f0 = true) (h1 : inFl f1 = true) : fix Tb md 287 [R (row fI l) f0, R (row fI b) f1] = some ⟨[R (row fI (sel (notIn b) idI l)) (.ow false)], [], none⟩ := by
  obtain ⟨et, het⟩ : ∃ y_, y_ = row fI (sel (notIn b) idI l) := ⟨_, rfl⟩
  rw [← het]
  generalize hr : (⟨_, [], none⟩ : Ret) = r
  obtain ⟨ea, hea⟩ : ∃ y_, y_ = row fI l := ⟨_, rfl⟩
  obtain ⟨eb, heb⟩ : ∃ y_, y_ = row fI b := ⟨_, rfl⟩
  rw [← hea, ← heb]
  refine fix_fn2 (fn := ir287) tb_287 rfl rfl (by decide) rfl ?_; intro Q hQ; simp only [shutArgs, shutS, List.map_cons, List.map_nil, ir287, shut_in h0, shut_in h1, List.head?_nil, reduceCtorEq, if_false, sExt, sHello, sAnswer, sEdit, sDeal, sBox, sDialed, sKnown]
  intro add sub mul arith eq ne lt le gt ge neg conv mn mx not beq len at' ln bd cut app allS isNil mks set o hP F ho
  have la := F.len_at hea
  cbv
  refine loop_ind2 hP (σ := List Int × List Int × List (List V) × Int × Option (Int)) (fun s => match s.2.2.2.2 with | none => [(0, R ea .sh), (1, R eb .sh), (4, R [] .nl), (5, R s.2.2.1 (.ow false)), (9, R ea .sh), (10, I (len ea)), (11, I s.2.2.2.1)] | some j => [(0, R ea .sh), (1, R eb .sh), (4, R [] .nl), (5, R s.2.2.1 (.ow false)), (7, I j), (9, R ea .sh), (10, I (len ea)), (11, I s.2.2.2.1)]) (fun s => At s.2.2.2.1 s.2.1.length ∧ l = s.2.1 ++ s.1 ∧ s.2.2.1 = row fI (sel (notIn b) idI s.2.1)) (fun s => s.1.length) (l, [], [], 0, none) rfl ⟨rfl, rfl, rfl⟩ ?_
  intro c1 Q1 hc1 hQ1
  rintro ⟨suf, pre, eo, i, j⟩ ⟨hi, hl', hb⟩ ih
  simp only at hi hl' hb ih
  cases j with
  | none =>
    cbv
    cases suf with
    | nil =>
      rw [F.lt_f hi la (by simp [hl'])]; cbv
      rw [hQ1]; cbv
      rw [hQ]; cbv
      rw [← hr, het, hb, hl', List.append_nil]
    | cons x suf =>
      obtain ⟨ix, hix⟩ : ∃ y_, y_ = pre.length * 1 := ⟨_, rfl⟩
      have hpre : pre.length ≤ 1073741824 := by rw [hl'] at hl; simp at hl; omega
      have hs : (sel (notIn b) idI pre).length ≤ pre.length := sel_len
      have hi' : At (add .i64 i 1) (pre ++ [x]).length := at_len (F.inc hi (by omega)) (by simp)
      have hl2 : l = (pre ++ [x]) ++ suf := by rw [hl']; simp
      have hmem : x ∈ l := by rw [hl']; simp
      have p0 : at' 1 ea i = some (ix, [.int .i64 x]) := by rw [hix]; exact F.get hi hea hl' (fun _ => rfl) (by decide)
      obtain ⟨v, hv⟩ : ∃ y_, y_ = hasI b x := ⟨_, rfl⟩
      have hP : notIn b x = !v := by rw [hv]; rfl
      have c2 : o 302 [R eb (.sp 0 0), I x] = some ⟨[B v], [], none⟩ := by rw [ho, hv, heb]; exact ok302 _ _ (by omega) rfl
      rw [F.lt_t hi la (by simp [hl'])]; cbv
      rw [p0]; cbv
      rw [c2]; cbv
      refine both (fun d => ?_) (fun d => ?_) <;> rw [d] <;> cbv
      · rw [show allS [[.int .i64 x]] = true by rw [F.allS]; rfl]; cbv
        obtain ⟨eo', heo'⟩ : ∃ y_, y_ = row fI (sel (notIn b) idI pre ++ [idI x]) := ⟨_, rfl⟩
        rw [show app 1 eo [[.int .i64 x]] = some eo' by rw [heo']; exact F.push hb (fun _ => rfl) rfl (by omega)]; cbv
        refine ih (suf, pre ++ [x], eo', add .i64 i 1, some x) ⟨hi', hl2, by simp only; rw [heo', sel_t (by rw [hP, F.not_t d]; rfl)]⟩ (by simp)
      · refine ih (suf, pre ++ [x], eo, add .i64 i 1, some x) ⟨hi', hl2, by simp only; rw [hb, sel_f (by rw [hP, F.not_f d]; rfl)]⟩ (by simp)
  | some jj =>
    cbv
    cases suf with
    | nil =>
      rw [F.lt_f hi la (by simp [hl'])]; cbv
      rw [hQ1]; cbv
      rw [hQ]; cbv
      rw [← hr, het, hb, hl', List.append_nil]
    | cons x suf =>
      obtain ⟨ix, hix⟩ : ∃ y_, y_ = pre.length * 1 := ⟨_, rfl⟩
      have hpre : pre.length ≤ 1073741824 := by rw [hl'] at hl; simp at hl; omega
      have hs : (sel (notIn b) idI pre).length ≤ pre.length := sel_len
      have hi' : At (add .i64 i 1) (pre ++ [x]).length := at_len (F.inc hi (by omega)) (by simp)
      have hl2 : l = (pre ++ [x]) ++ suf := by rw [hl']; simp
      have hmem : x ∈ l := by rw [hl']; simp
      have p0 : at' 1 ea i = some (ix, [.int .i64 x]) := by rw [hix]; exact F.get hi hea hl' (fun _ => rfl) (by decide)
      obtain ⟨v, hv⟩ : ∃ y_, y_ = hasI b x := ⟨_, rfl⟩
      have hP : notIn b x = !v := by rw [hv]; rfl
      have c2 : o 302 [R eb (.sp 0 0), I x] = some ⟨[B v], [], none⟩ := by rw [ho, hv, heb]; exact ok302 _ _ (by omega) rfl
      rw [F.lt_t hi la (by simp [hl'])]; cbv
      rw [p0]; cbv
      rw [c2]; cbv
      refine both (fun d => ?_) (fun d => ?_) <;> rw [d] <;> cbv
      · rw [show allS [[.int .i64 x]] = true by rw [F.allS]; rfl]; cbv
        obtain ⟨eo', heo'⟩ : ∃ y_, y_ = row fI (sel (notIn b) idI pre ++ [idI x]) := ⟨_, rfl⟩
        rw [show app 1 eo [[.int .i64 x]] = some eo' by rw [heo']; exact F.push hb (fun _ => rfl) rfl (by omega)]; cbv
        refine ih (suf, pre ++ [x], eo', add .i64 i 1, some x) ⟨hi', hl2, by simp only; rw [heo', sel_t (by rw [hP, F.not_t d]; rfl)]⟩ (by simp)
      · refine ih (suf, pre ++ [x], eo, add .i64 i 1, some x) ⟨hi', hl2, by simp only; rw [hb, sel_f (by rw [hP, F.not_f d]; rfl)]⟩ (by simp)

/- impl.Ext] -/
theorem ok288_0 (g : Nat) (hg : md g = []) (p : Ext → Bool) (l : List Ext) (hl : l.length ≤ 1099511627776) (hp : ∀ x ∈ l, fix Tb md g [sExt x.tag (row fI x.body) (.sp 0 1)] = some ⟨[B (p x)], [], none⟩) {f0 : Fl} (h0 : inFl f0 = true) :
    fix Tb md 288 [R (row fExt l) f0, ⟨.val, [⟨.fn g [], .sh⟩]⟩] = some ⟨[B (l.any p)], [], none⟩ := by
  refine fix_fn (fn := ir288) tb_288 rfl rfl (by decide) rfl ?_; simp only [shutArgs, shutS, List.map_cons, List.map_nil, ir288, shut_in h0, List.head?_nil, reduceCtorEq, if_false, sExt, sHello, sAnswer, sEdit, sDeal, sBox, sDialed, sKnown]
  generalize hr : (⟨_, [], none⟩ : Ret) = r
  obtain ⟨ea, hea⟩ : ∃ y_, y_ = row fExt l := ⟨_, rfl⟩
  rw [← hea]
  obtain ⟨v, hv⟩ : ∃ y_, y_ = ixOf p l 0 := ⟨_, rfl⟩
  have hv2 : decide (0 ≤ v) = l.any p := by rw [hv]; exact ixOf_ge p l 0 (by decide)
  rw [← hv2] at hr
  clear hv2
  intro add sub mul arith eq ne lt le gt ge neg conv mn mx not beq len at' ln bd cut app allS isNil mks set o hP F ho
  have c1 : o 351 [R ea (.sp 0 0), ⟨.val, [⟨.fn g [], .sh⟩]⟩] = some ⟨[I v], [], none⟩ := by rw [ho, hv, hea]; exact ok351_0 g hg p l hl hp rfl
  cbv
  rw [c1]; cbv
  rw [← hr, F.ge]
theorem ok288_1 (g : Nat) (hg : md g = []) (k0 : V) (p : Ext → Bool) (l : List Ext) (hl : l.length ≤ 1099511627776) (hp : ∀ x ∈ l, fix Tb md g [sExt x.tag (row fI x.body) (.sp 0 1), ⟨.val, [⟨k0, .sh⟩]⟩] = some ⟨[B (p x)], [], none⟩) {f0 : Fl} (h0 : inFl f0 = true) :
    fix Tb md 288 [R (row fExt l) f0, ⟨.val, [⟨.fn g [k0], .sh⟩]⟩] = some ⟨[B (l.any p)], [], none⟩ := by
  refine fix_fn (fn := ir288) tb_288 rfl rfl (by decide) rfl ?_; simp only [shutArgs, shutS, List.map_cons, List.map_nil, ir288, shut_in h0, List.head?_nil, reduceCtorEq, if_false, sExt, sHello, sAnswer, sEdit, sDeal, sBox, sDialed, sKnown]
  generalize hr : (⟨_, [], none⟩ : Ret) = r
  obtain ⟨ea, hea⟩ : ∃ y_, y_ = row fExt l := ⟨_, rfl⟩
  rw [← hea]
  obtain ⟨v, hv⟩ : ∃ y_, y_ = ixOf p l 0 := ⟨_, rfl⟩
  have hv2 : decide (0 ≤ v) = l.any p := by rw [hv]; exact ixOf_ge p l 0 (by decide)
  rw [← hv2] at hr
  clear hv2
  intro add sub mul arith eq ne lt le gt ge neg conv mn mx not beq len at' ln bd cut app allS isNil mks set o hP F ho
  have c1 : o 351 [R ea (.sp 0 0), ⟨.val, [⟨.fn g [k0], .sh⟩]⟩] = some ⟨[I v], [], none⟩ := by rw [ho, hv, hea]; exact ok351_1 g hg k0 p l hl hp rfl
  cbv
  rw [c1]; cbv
  rw [← hr, F.ge]
theorem ok288_2 (g : Nat) (hg : md g = []) (k0 k1 : V) (p : Ext → Bool) (l : List Ext) (hl : l.length ≤ 1099511627776) (hp : ∀ x ∈ l, fix Tb md g [sExt x.tag (row fI x.body) (.sp 0 1), ⟨.val, [⟨k0, .sh⟩]⟩, ⟨.val, [⟨k1, .sh⟩]⟩] = some ⟨[B (p x)], [], none⟩) {f0 : Fl} (h0 : inFl f0 = true) :
    fix Tb md 288 [R (row fExt l) f0, ⟨.val, [⟨.fn g [k0, k1], .sh⟩]⟩] = some ⟨[B (l.any p)], [], none⟩ := by
  refine fix_fn (fn := ir288) tb_288 rfl rfl (by decide) rfl ?_; simp only [shutArgs, shutS, List.map_cons, List.map_nil, ir288, shut_in h0, List.head?_nil, reduceCtorEq, if_false, sExt, sHello, sAnswer, sEdit, sDeal, sBox, sDialed, sKnown]
  generalize hr : (⟨_, [], none⟩ : Ret) = r
  obtain ⟨ea, hea⟩ : ∃ y_, y_ = row fExt l := ⟨_, rfl⟩
  rw [← hea]
  obtain ⟨v, hv⟩ : ∃ y_, y_ = ixOf p l 0 := ⟨_, rfl⟩
  have hv2 : decide (0 ≤ v) = l.any p := by rw [hv]; exact ixOf_ge p l 0 (by decide)
  rw [← hv2] at hr
  clear hv2
  intro add sub mul arith eq ne lt le gt ge neg conv mn mx not beq len at' ln bd cut app allS isNil mks set o hP F ho
  have c1 : o 351 [R ea (.sp 0 0), ⟨.val, [⟨.fn g [k0, k1], .sh⟩]⟩] = some ⟨[I v], [], none⟩ := by rw [ho, hv, hea]; exact ok351_2 g hg k0 k1 p l hl hp rfl
  cbv
  rw [c1]; cbv
  rw [← hr, F.ge]

/- slices.Equal[[]int,int] -/
theorem ok229 (a b : List Int) (hl : a.length ≤ 1099511627776) {f0 f1 : Fl} (h0 : inFl f0 = true) (h1 : inFl f1 = true) : fix Tb md 229 [R (row fI a) f0, R (row fI b) f1] = some ⟨[B (decide (a = b))], [], none⟩ := by
  refine fix_fn (fn := ir229) tb_229 rfl rfl (by decide) rfl ?_; simp only [shutArgs, shutS, List.map_cons, List.map_nil, ir229, shut_in h0, shut_in h1, List.head?_nil, reduceCtorEq, if_false, sExt, sHello, sAnswer, sEdit, sDeal, sBox, sDialed, sKnown]
  generalize hr : (⟨_, [], none⟩ : Ret) = r
  obtain ⟨ea, hea⟩ : ∃ y_, y_ = row fI a := ⟨_, rfl⟩
  obtain ⟨eb, heb⟩ : ∃ y_, y_ = row fI b := ⟨_, rfl⟩
  rw [← hea, ← heb]
  intro add sub mul arith eq ne lt le gt ge neg conv mn mx not beq len at' ln bd cut app allS isNil mks set o hP F ho
  have la := F.len_at hea
  have lb := F.len_at heb
  cbv
  by_cases hab : a.length = b.length
  · rw [F.ne_f (by unfold At at la lb; omega)]; cbv
    refine loop_ind hP (σ := List Int × List Int × List Int × Int × Option Int) (fun s => match s.2.2.2.2 with | none => [(0, R ea .sh), (1, R eb .sh), (4, B false), (12, I (len ea)), (13, I s.2.2.2.1)] | some j => [(0, R ea .sh), (1, R eb .sh), (4, B false), (5, I j), (12, I (len ea)), (13, I s.2.2.2.1)]) (fun s => At s.2.2.2.1 s.1.length ∧ a = s.1 ++ s.2.1 ∧ b = s.1 ++ s.2.2.1) (fun s => s.2.1.length) ([], a, b, 0, none) rfl ⟨rfl, rfl, rfl⟩ ?_
    rintro ⟨pre, sa, sb, i, j⟩ ⟨hi, ha, hb⟩ ih
    simp only at hi ha hb ih
    have hlen : sa.length = sb.length := by simp [ha, hb] at hab; exact hab
    cases j <;> cbv <;> (
      match sa, sb, hlen, ha, hb with
      | [], [], _, ha, hb =>
        rw [F.lt_f hi la (by simp [ha])]; cbv
        rw [← hr]; simp [ha, hb]
      | x :: sa, y :: sb, _, ha, hb =>
        rw [F.lt_t hi la (by simp [ha])]; cbv
        obtain ⟨ix, hix⟩ : ∃ y_, y_ = pre.length * 1 := ⟨_, rfl⟩
        rw [show at' 1 ea i = some (ix, [.int .i64 x]) by rw [hix]; exact F.get hi hea ha (fun _ => rfl) (by decide)]; cbv
        rw [show at' 1 eb i = some (ix, [.int .i64 y]) by rw [hix]; exact F.get hi heb hb (fun _ => rfl) (by decide)]; cbv
        by_cases hxy : x = y
        · rw [F.ne_f hxy]; cbv
          refine ih (pre ++ [x], sa, sb, add .i64 i 1, some i) ⟨at_len (F.inc hi (by simp [ha] at hl; omega)) (by simp), by simp [ha], by simp [hb, hxy]⟩ (by simp)
        · rw [F.ne_t hxy]; cbv
          rw [← hr]; simp [ha, hb, hxy])
  · rw [F.ne_t (by unfold At at la lb; omega)]; cbv
    rw [← hr]
    simp
    intro e; exact hab (by rw [e])

/- impl.equalExt -/
theorem ok291 (x y : Ext) (hx : x.body.length ≤ 1099511627776) {f0 f1 : Fl} (h0 : inFl f0 = true) (h1 : inFl f1 = true) : fix Tb md 291 [sExt x.tag (row fI x.body) f0, sExt y.tag (row fI y.body) f1] = some ⟨[B (decide (x = y))], [], none⟩ := by
  obtain ⟨v, hv⟩ : ∃ y_, y_ = decide (x.body = y.body) := ⟨_, rfl⟩
  obtain ⟨u, hu⟩ : ∃ y_, y_ = decide (x.tag = y.tag) := ⟨_, rfl⟩
  rw [show decide (x = y) = (u && v) by rw [hu, hv]; simp only [Ext.eq_iff]; by_cases k1 : x.tag = y.tag <;> by_cases k2 : x.body = y.body <;> simp [k1, k2]]
  generalize hr : (⟨_, [], none⟩ : Ret) = r
  obtain ⟨ex, hex⟩ : ∃ y_, y_ = row fI x.body := ⟨_, rfl⟩
  obtain ⟨ey, hey⟩ : ∃ y_, y_ = row fI y.body := ⟨_, rfl⟩
  rw [← hex, ← hey]
  refine fix_fn2 (fn := ir291) tb_291 rfl rfl (by decide) rfl ?_; intro Q hQ; simp only [shutArgs, shutS, List.map_cons, List.map_nil, ir291, shut_in h0, shut_in h1, List.head?_nil, reduceCtorEq, if_false, sExt, sHello, sAnswer, sEdit, sDeal, sBox, sDialed, sKnown]
  intro add sub mul arith eq ne lt le gt ge neg conv mn mx not beq len at' ln bd cut app allS isNil mks set o hP F ho
  have c1 : o 229 [R ex (.sp 0 0), R ey (.sp 1 0)] = some ⟨[B v], [], none⟩ := by rw [ho, hv, hex, hey]; exact ok229 _ _ hx rfl rfl
  have g1 : eq x.tag y.tag = u := by rw [F.eq, hu]
  cbv
  rw [g1]; cbv
  refine both (fun d1 => ?_) (fun d1 => ?_) <;> rw [d1] <;> cbv
  · rw [c1]; cbv
    rw [hQ]; cbv
    rw [← hr, d1]; rfl
  · rw [hQ]; cbv
    rw [← hr, d1]; rfl

/- impl.IsPartOf$1 -/
theorem ok289 (y : Ext) (h : Hello) (hl2 : h.exts.length ≤ 1099511627776) (w2 : ∀ y ∈ h.exts, y.body.length ≤ 1099511627776) {f0 : Fl} (h0 : inFl f0 = true) : fix Tb md 289 [sExt y.tag (row fI y.body) f0, ⟨.val, [⟨.ptr () [.row () (row fI h.versions), .row () (row fExt h.exts)], .sh⟩]⟩] = some ⟨[B (!bodyOk h.exts y)], [], none⟩ := by
  obtain ⟨u, hu⟩ : ∃ y_, y_ = bodyOk h.exts y := ⟨_, rfl⟩
  generalize hr : (⟨_, [], none⟩ : Ret) = r
  obtain ⟨e1, he1⟩ : ∃ y_, y_ = row fI y.body := ⟨_, rfl⟩
  obtain ⟨dv, hdv⟩ : ∃ y_, y_ = row fI h.versions := ⟨_, rfl⟩
  obtain ⟨dx, hdx⟩ : ∃ y_, y_ = row fExt h.exts := ⟨_, rfl⟩
  rw [← he1, ← hdv, ← hdx]
  obtain ⟨v, hvv⟩ : ∃ y_, y_ = extOf h.exts y.tag := ⟨_, rfl⟩
  rcases extOf_find h.exts y.tag with ⟨n1, n2⟩ | ⟨p', d, s', n1, n2, n3, n4⟩
  · refine fix_fn2 (fn := ir289) tb_289 rfl rfl (by decide) rfl ?_; intro Q hQ; simp only [shutArgs, shutS, List.map_cons, List.map_nil, ir289, shut_in h0, List.head?_nil, reduceCtorEq, if_false, sExt, sHello, sAnswer, sEdit, sDeal, sBox, sDialed, sKnown]
    intro add sub mul arith eq ne lt le gt ge neg conv mn mx not beq len at' ln bd cut app allS isNil mks set o hP F ho
    have hu' : u = false := by rw [hu, bodyOk, n1]
    have c3 : o 290 [R dx (.sp 0 0), I y.tag] = some ⟨[I v], [], none⟩ := by rw [ho, hvv, hdx]; exact ok290 _ _ hl2 rfl
    have g1 : lt v 0 = true := by rw [F.lt, hvv, n2]; rfl
    cbv
    rw [c3]; cbv
    rw [g1]; cbv
    rw [hQ]; cbv
    rw [← hr, ← hu, hu']; rfl
  · obtain ⟨e2, he2⟩ : ∃ y_, y_ = row fI d.body := ⟨_, rfl⟩
    obtain ⟨iy, hiy⟩ : ∃ y_, y_ = p'.length * 2 := ⟨_, rfl⟩
    refine fix_fn2 (fn := ir289) tb_289 rfl rfl (by decide) rfl ?_; intro Q hQ; simp only [shutArgs, shutS, List.map_cons, List.map_nil, ir289, shut_in h0, List.head?_nil, reduceCtorEq, if_false, sExt, sHello, sAnswer, sEdit, sDeal, sBox, sDialed, sKnown]
    intro add sub mul arith eq ne lt le gt ge neg conv mn mx not beq len at' ln bd cut app allS isNil mks set o hP F ho
    have c3 : o 290 [R dx (.sp 0 0), I y.tag] = some ⟨[I v], [], none⟩ := by rw [ho, hvv, hdx]; exact ok290 _ _ hl2 rfl
    have g1 : lt v 0 = false := by rw [F.lt, hvv]; simp; exact n3
    rw [← hvv] at n2
    have p1 : at' 2 dx v = some (iy, [.int .i64 d.tag, .row () e2]) := by rw [hiy, he2]; exact F.get n2 hdx n1 (fun _ => rfl) (by decide)
    have hu' : decide (d = y) = u := by
      rw [hu, bodyOk, n4]
      have ht : d.tag = y.tag := by have := List.find?_some n4; simpa [tagP] using this
      simp [Ext.eq_iff, ht]
    have c4 : o 291 [sExt d.tag e2 (.sp 0 1), sExt y.tag e1 (.sp 1 1)] = some ⟨[B u], [], none⟩ := by rw [ho, ← hu', he1, he2]; exact ok291 _ _ (w2 d (by rw [n1]; simp)) rfl rfl
    cbv
    rw [c3]; cbv
    rw [g1]; cbv
    rw [p1]; cbv
    rw [c4]; cbv
    rw [hQ]; cbv
    rw [← hr, F.not, ← hu]

/- impl.IsPartOf -/
theorem notIn_nil (a b : List Int) : decide ((sel (notIn b) idI a).length = 0) = a.all (hasI b) := by
  rw [sel_idI]
  induction a with
  | nil => rfl
  | cons x a ih =>
    rw [List.filter_cons, List.all_cons, notIn]
    cases h : hasI b x with
    | true => simpa using ih
    | false => simp
theorem ok148 (x h : Hello) (hvx : x.versions.length ≤ 1073741824) (hv2 : h.versions.length ≤ 1073741824) (hl : x.exts.length ≤ 1099511627776) (hl2 : h.exts.length ≤ 1099511627776) (w : ∀ y ∈ x.exts, y.body.length ≤ 1099511627776) (w2 : ∀ y ∈ h.exts, y.body.length ≤ 1099511627776) {f0 f1 f2 f3 : Fl} (q0 : inFl f0 = true) (q1 : inFl f1 = true) (q2 : inFl f2 = true) (q3 : inFl f3 = true) : fix Tb md 148 [sHello (row fI x.versions) (row fExt x.exts) f0 f1, sHello (row fI h.versions) (row fExt h.exts) f2 f3] = some ⟨[B (isPart x h)], [], none⟩ := by
  obtain ⟨T1, hT1⟩ : ∃ y_, y_ = x.versions.all (hasI h.versions) := ⟨_, rfl⟩
  obtain ⟨T3, hT3⟩ : ∃ y_, y_ = x.exts.any fun y => !bodyOk h.exts y := ⟨_, rfl⟩
  have e : isPart x h = (T1 && !T3) := by rw [hT1, hT3, isPart, List.all_eq_not_any_not (l := x.exts)]
  rw [e]
  generalize hr : (⟨_, [], none⟩ : Ret) = r
  obtain ⟨ev, hev⟩ : ∃ y_, y_ = row fI x.versions := ⟨_, rfl⟩
  obtain ⟨ex, hex⟩ : ∃ y_, y_ = row fExt x.exts := ⟨_, rfl⟩
  obtain ⟨dv, hdv⟩ : ∃ y_, y_ = row fI h.versions := ⟨_, rfl⟩
  obtain ⟨dx, hdx⟩ : ∃ y_, y_ = row fExt h.exts := ⟨_, rfl⟩
  rw [← hev, ← hex, ← hdv, ← hdx]
  obtain ⟨ew, hew⟩ : ∃ y_, y_ = row fI (sel (notIn h.versions) idI x.versions) := ⟨_, rfl⟩
  refine fix_fn2 (fn := ir148) tb_148 rfl rfl (by decide) rfl ?_; intro Q hQ; simp only [shutArgs, shutS, List.map_cons, List.map_nil, ir148, shut_in q0, shut_in q1, shut_in q2, shut_in q3, List.head?_nil, reduceCtorEq, if_false, sExt, sHello, sAnswer, sEdit, sDeal, sBox, sDialed, sKnown]
  intro add sub mul arith eq ne lt le gt ge neg conv mn mx not beq len at' ln bd cut app allS isNil mks set o hP F ho
  have lw := F.len_at hew
  have c1 : o 287 [R ev (.sp 0 0), R dv (.sp 1 0)] = some ⟨[R ew (.ow false)], [], none⟩ := by rw [ho, hew, hev, hdv]; exact ok287 _ _ hvx hv2 rfl rfl
  have g1 : eq (len ew) 0 = T1 := by rw [F.eq_n lw (k := 0) (m := 0) rfl, hT1]; exact notIn_nil _ _
  have c2 : o 288 [R ex (.sp 0 0), ⟨.val, [⟨.fn 289 [.ptr () [.row () dv, .row () dx]], .sh⟩]⟩] = some ⟨[B T3], [], none⟩ := by
    rw [ho, hT3, hex, hdv, hdx]; exact ok288_1 289 rfl _ (fun y => !bodyOk h.exts y) x.exts hl (fun y _ => ok289 y h hl2 w2 rfl) rfl
  cbv
  rw [c1]; cbv
  rw [g1]; cbv
  refine both (fun d1 => ?_) (fun d1 => ?_) <;> rw [d1] <;> cbv
  · rw [c2]; cbv
    rw [hQ]; cbv
    rw [← hr, F.not, d1]; rfl
  · rw [hQ]; cbv
    rw [← hr, d1]; rfl

/- spec.GivenUp -/
def gaP (x : Hello) (e : Ext) : Bool := decide (extOf x.exts e.tag < 0) && inR e.tag 0 255
def gaF (e : Ext) : Int := 1000 + e.tag
def givenV (h x : Hello) : List Int := sel (notIn x.versions) idI h.versions ++ sel (gaP x) gaF h.exts
theorem givenV_len (h x : Hello) : (givenV h x).length ≤ h.versions.length + h.exts.length := by
  unfold givenV
  have h1 : (sel (notIn x.versions) idI h.versions).length ≤ h.versions.length := sel_len
  have h2 : (sel (gaP x) gaF h.exts).length ≤ h.exts.length := sel_len
  rw [List.length_append]; omega
theorem ok149 (h x : Hello) (a1 : h.versions.length ≤ 1048576) (a2 : x.versions.length ≤ 1048576) (a3 : h.exts.length ≤ 1048576) (a4 : x.exts.length ≤ 1048576) {f0 f1 f2 f3 : Fl} (q0 : inFl f0 = true) (q1 : inFl f1 = true) (q2 : inFl f2 = true) (q3 : inFl f3 = true) : fix Tb md 149 [sHello (row fI h.versions) (row fExt h.exts) f0 f1, sHello (row fI x.versions) (row fExt x.exts) f2 f3] = some ⟨[R (row fI (givenV h x)) (.ow false)], [], none⟩ := by
  obtain ⟨et, het⟩ : ∃ y_, y_ = row fI (givenV h x) := ⟨_, rfl⟩
  rw [← het]
  generalize hr : (⟨_, [], none⟩ : Ret) = r
  obtain ⟨dv, hdv⟩ : ∃ y_, y_ = row fI h.versions := ⟨_, rfl⟩
  obtain ⟨dx, hdx⟩ : ∃ y_, y_ = row fExt h.exts := ⟨_, rfl⟩
  obtain ⟨ev, hev⟩ : ∃ y_, y_ = row fI x.versions := ⟨_, rfl⟩
  obtain ⟨ex, hex⟩ : ∃ y_, y_ = row fExt x.exts := ⟨_, rfl⟩
  rw [← hdv, ← hdx, ← hev, ← hex]
  obtain ⟨W, hW⟩ : ∃ y_, y_ = sel (notIn x.versions) idI h.versions := ⟨_, rfl⟩
  obtain ⟨ew, hew⟩ : ∃ y_, y_ = row fI W := ⟨_, rfl⟩
  have hWl : W.length ≤ 1048576 := by rw [hW]; exact Nat.le_trans sel_len a1
  refine fix_fn2 (fn := ir149) tb_149 rfl rfl (by decide) rfl ?_; intro Q hQ; simp only [shutArgs, shutS, List.map_cons, List.map_nil, ir149, shut_in q0, shut_in q1, shut_in q2, shut_in q3, List.head?_nil, reduceCtorEq, if_false, sExt, sHello, sAnswer, sEdit, sDeal, sBox, sDialed, sKnown]
  intro add sub mul arith eq ne lt le gt ge neg conv mn mx not beq len at' ln bd cut app allS isNil mks set o hP F ho
  have lx := F.len_at hdx
  have c1 : o 292 [R dv (.sp 0 0), R ev (.sp 1 0)] = some ⟨[R ew (.ow false)], [], none⟩ := by rw [ho, hew, hW, hdv, hev]; exact ok292 _ _ (by omega) (by omega) rfl rfl
  cbv
  rw [c1]; cbv
  refine loop_ind2 hP (σ := List Ext × List Ext × List (List V) × Int) (fun s => [(0, sHello dv dx .sh .sh), (1, sHello ev ex .sh .sh), (2, ⟨.ptr 51 0, []⟩), (3, ⟨.ptr 52 0, []⟩), (4, R [] .nl), (5, R s.2.2.1 (.ow false)), (6, I s.2.2.2), (51, ⟨.box (), [⟨.row () dv, .sh⟩, ⟨.row () dx, .sh⟩]⟩), (52, ⟨.box (), [⟨.row () ev, .sh⟩, ⟨.row () ex, .sh⟩]⟩)]) (fun s => At s.2.2.2 s.2.1.length ∧ h.exts = s.2.1 ++ s.1 ∧ s.2.2.1 = row fI (W ++ sel (gaP x) gaF s.2.1)) (fun s => s.1.length) (h.exts, [], ew, 0) rfl ⟨rfl, rfl, by rw [hew]; simp [sel]⟩ ?_
  intro c1 Q1 hc1 hQ1
  rintro ⟨suf, pre, eo, i⟩ ⟨hi, hl', hb⟩ ih
  simp only at hi hl' hb ih
  cbv
  cases suf with
  | nil =>
    rw [F.lt_f hi lx (by simp [hl'])]; cbv
    rw [hQ1]; cbv
    rw [hQ]; cbv
    rw [← hr, het, hb, givenV, hl', List.append_nil, hW]
  | cons y suf =>
    obtain ⟨ix, hix⟩ : ∃ y_, y_ = pre.length * 2 := ⟨_, rfl⟩
    obtain ⟨e1, he1⟩ : ∃ y_, y_ = row fI y.body := ⟨_, rfl⟩
    have hpre : pre.length ≤ 1048576 := by rw [hl'] at a3; simp at a3; omega
    have hs : (sel (gaP x) gaF pre).length ≤ pre.length := sel_len
    have hi' : At (add .i64 i 1) (pre ++ [y]).length := at_len (F.inc hi (by omega)) (by simp)
    have hl2 : h.exts = (pre ++ [y]) ++ suf := by rw [hl']; simp
    have p0 : at' 2 dx i = some (ix, [.int .i64 y.tag, .row () e1]) := by rw [hix, he1]; exact F.get hi hdx hl' (fun _ => rfl) (by decide)
    obtain ⟨v, hvv⟩ : ∃ y_, y_ = extOf x.exts y.tag := ⟨_, rfl⟩
    obtain ⟨b1, hb1⟩ : ∃ y_, y_ = decide (v < 0) := ⟨_, rfl⟩
    obtain ⟨b2, hb2⟩ : ∃ y_, y_ = inR y.tag 0 255 := ⟨_, rfl⟩
    have hP' : gaP x y = (b1 && b2) := by rw [hb1, hb2, hvv]; rfl
    have c2 : o 286 [R ex (.sp 0 0), I y.tag] = some ⟨[I v], [], none⟩ := by rw [ho, hvv, hex]; exact ok286 _ _ (by omega) rfl
    have c3 : o 230 [I y.tag, I 0, I 255] = some ⟨[B b2], [], none⟩ := by rw [ho, hb2]; exact ok230 ..
    have g1 : lt v 0 = b1 := by rw [F.lt, hb1]
    obtain ⟨eo', heo'⟩ : ∃ y_, y_ = row fI (W ++ sel (gaP x) gaF pre ++ [gaF y]) := ⟨_, rfl⟩
    have q1 : b2 = true → app 1 eo [[.int .i64 (add .i64 1000 y.tag)]] = some eo' := by
      intro q
      rw [hb2] at q
      simp [inR] at q
      rw [show add .i64 1000 y.tag = gaF y by rw [F.add, wrap64 (by omega) (by omega)]; rfl, heo']
      exact F.push hb (fun _ => rfl) rfl (by rw [List.length_append]; omega)
    have q2 : allS [[.int .i64 (add .i64 1000 y.tag)]] = true := by rw [F.allS]; rfl
    rw [F.lt_t hi lx (by simp [hl'])]; cbv
    rw [p0]; cbv
    rw [c2]; cbv
    rw [g1]; cbv
    refine both (fun d1 => ?_) (fun d1 => ?_) <;> rw [d1] <;> cbv
    · rw [p0]; cbv
      rw [c3]; cbv
      refine both (fun d2 => ?_) (fun d2 => ?_) <;> rw [d2] <;> cbv
      · rw [p0]; cbv
        rw [q2]; cbv
        rw [q1 d2]; cbv
        refine ih (suf, pre ++ [y], eo', add .i64 i 1) ⟨hi', hl2, by simp only; rw [heo', sel_t (by rw [hP', d1, d2]; rfl)]; simp⟩ (by simp)
      · refine ih (suf, pre ++ [y], eo, add .i64 i 1) ⟨hi', hl2, by simp only; rw [hb, sel_f (by rw [hP', d2]; simp)]⟩ (by simp)
    · refine ih (suf, pre ++ [y], eo, add .i64 i 1) ⟨hi', hl2, by simp only; rw [hb, sel_f (by rw [hP', d1]; rfl)]⟩ (by simp)

/- spec.TagsOf -/
def yesE (_ : Ext) : Bool := true
theorem ok280 (l : List Ext) (hl : l.length ≤ 1073741824) {f0 : Fl} (h0 : inFl f0 = true) : fix Tb md 280 [R (row fExt l) f0] = some ⟨[R (row fI (sel yesE Ext.tag l)) (.ow false)], [], none⟩ := by
  obtain ⟨et, het⟩ : ∃ y_, y_ = row fI (sel yesE Ext.tag l) := ⟨_, rfl⟩
  rw [← het]
  generalize hr : (⟨_, [], none⟩ : Ret) = r
  obtain ⟨ea, hea⟩ : ∃ y_, y_ = row fExt l := ⟨_, rfl⟩
  rw [← hea]
  refine fix_fn2 (fn := ir280) tb_280 rfl rfl (by decide) rfl ?_; intro Q hQ; simp only [shutArgs, shutS, List.map_cons, List.map_nil, ir280, shut_in h0, List.head?_nil, reduceCtorEq, if_false, sExt, sHello, sAnswer, sEdit, sDeal, sBox, sDialed, sKnown]
  intro add sub mul arith eq ne lt le gt ge neg conv mn mx not beq len at' ln bd cut app allS isNil mks set o hP F ho
  have la := F.len_at hea
  cbv
  refine loop_ind2 hP (σ := List Ext × List Ext × List (List V) × Int) (fun s => [(0, R ea .sh), (2, R [] .nl), (3, R s.2.2.1 (.ow false)), (4, I s.2.2.2)]) (fun s => At s.2.2.2 s.2.1.length ∧ l = s.2.1 ++ s.1 ∧ s.2.2.1 = row fI (sel yesE Ext.tag s.2.1)) (fun s => s.1.length) (l, [], [], 0) rfl ⟨rfl, rfl, rfl⟩ ?_
  intro c1 Q1 hc1 hQ1
  rintro ⟨suf, pre, eo, i⟩ ⟨hi, hl', hb⟩ ih
  simp only at hi hl' hb ih
  cbv
  cases suf with
  | nil =>
    rw [F.lt_f hi la (by simp [hl'])]; cbv
    rw [hQ1]; cbv
    rw [hQ]; cbv
    rw [← hr, het, hb, hl', List.append_nil]
  | cons x suf =>
    obtain ⟨ix, hix⟩ : ∃ y_, y_ = pre.length * 2 := ⟨_, rfl⟩
    have hpre : pre.length ≤ 1073741824 := by rw [hl'] at hl; simp at hl; omega
    have hs : (sel yesE Ext.tag pre).length ≤ pre.length := sel_len
    have hi' : At (add .i64 i 1) (pre ++ [x]).length := at_len (F.inc hi (by omega)) (by simp)
    have hl2 : l = (pre ++ [x]) ++ suf := by rw [hl']; simp
    have hmem : x ∈ l := by rw [hl']; simp
    obtain ⟨e1, he1⟩ : ∃ y_, y_ = row fI x.body := ⟨_, rfl⟩
    have p0 : at' 2 ea i = some (ix, [.int .i64 x.tag, .row () e1]) := by rw [hix, he1]; exact F.get hi hea hl' (fun _ => rfl) (by decide)
    rw [F.lt_t hi la (by simp [hl'])]; cbv
    rw [p0]; cbv
    rw [show allS [[.int .i64 x.tag]] = true by rw [F.allS]; rfl]; cbv
    obtain ⟨eo', heo'⟩ : ∃ y_, y_ = row fI (sel yesE Ext.tag pre ++ [Ext.tag x]) := ⟨_, rfl⟩
    rw [show app 1 eo [[.int .i64 x.tag]] = some eo' by rw [heo']; exact F.push hb (fun _ => rfl) rfl (by omega)]; cbv
    refine ih (suf, pre ++ [x], eo', add .i64 i 1) ⟨hi', hl2, by simp only; rw [heo', sel_t rfl]⟩ (by simp)

/- impl.TagsOf -/
theorem ok179 (l : List Ext) (hl : l.length ≤ 1073741824) {f0 : Fl} (h0 : inFl f0 = true) : fix Tb md 179 [R (row fExt l) f0] = some ⟨[R (row fI (sel yesE Ext.tag l)) (.ow false)], [], none⟩ := by
  obtain ⟨et, het⟩ : ∃ y_, y_ = row fI (sel yesE Ext.tag l) := ⟨_, rfl⟩
  rw [← het]
  generalize hr : (⟨_, [], none⟩ : Ret) = r
  obtain ⟨ea, hea⟩ : ∃ y_, y_ = row fExt l := ⟨_, rfl⟩
  rw [← hea]
  refine fix_fn2 (fn := ir179) tb_179 rfl rfl (by decide) rfl ?_; intro Q hQ; simp only [shutArgs, shutS, List.map_cons, List.map_nil, ir179, shut_in h0, List.head?_nil, reduceCtorEq, if_false, sExt, sHello, sAnswer, sEdit, sDeal, sBox, sDialed, sKnown]
  intro add sub mul arith eq ne lt le gt ge neg conv mn mx not beq len at' ln bd cut app allS isNil mks set o hP F ho
  have la := F.len_at hea
  cbv
  refine loop_ind2 hP (σ := List Ext × List Ext × List (List V) × Int × Option (Int × List (List V))) (fun s => match s.2.2.2.2 with | none => [(0, R ea .sh), (2, R [] .nl), (3, R s.2.2.1 (.ow false)), (7, R ea .sh), (8, I (len ea)), (9, I s.2.2.2.1)] | some j => [(0, R ea .sh), (2, R [] .nl), (3, R s.2.2.1 (.ow false)), (5, ⟨.ptr 25 0, []⟩), (7, R ea .sh), (8, I (len ea)), (9, I s.2.2.2.1), (25, ⟨.box (), [⟨.int .i64 j.1, .sc⟩, ⟨.row () j.2, .sh⟩]⟩)]) (fun s => At s.2.2.2.1 s.2.1.length ∧ l = s.2.1 ++ s.1 ∧ s.2.2.1 = row fI (sel yesE Ext.tag s.2.1)) (fun s => s.1.length) (l, [], [], 0, none) rfl ⟨rfl, rfl, rfl⟩ ?_
  intro c1 Q1 hc1 hQ1
  rintro ⟨suf, pre, eo, i, j⟩ ⟨hi, hl', hb⟩ ih
  simp only at hi hl' hb ih
  cases j with
  | none =>
    cbv
    cases suf with
    | nil =>
      rw [F.lt_f hi la (by simp [hl'])]; cbv
      rw [hQ1]; cbv
      rw [hQ]; cbv
      rw [← hr, het, hb, hl', List.append_nil]
    | cons x suf =>
      obtain ⟨ix, hix⟩ : ∃ y_, y_ = pre.length * 2 := ⟨_, rfl⟩
      have hpre : pre.length ≤ 1073741824 := by rw [hl'] at hl; simp at hl; omega
      have hs : (sel yesE Ext.tag pre).length ≤ pre.length := sel_len
      have hi' : At (add .i64 i 1) (pre ++ [x]).length := at_len (F.inc hi (by omega)) (by simp)
      have hl2 : l = (pre ++ [x]) ++ suf := by rw [hl']; simp
      have hmem : x ∈ l := by rw [hl']; simp
      obtain ⟨e1, he1⟩ : ∃ y_, y_ = row fI x.body := ⟨_, rfl⟩
      have p0 : at' 2 ea i = some (ix, [.int .i64 x.tag, .row () e1]) := by rw [hix, he1]; exact F.get hi hea hl' (fun _ => rfl) (by decide)
      rw [F.lt_t hi la (by simp [hl'])]; cbv
      rw [p0]; cbv
      rw [show allS [[.int .i64 x.tag]] = true by rw [F.allS]; rfl]; cbv
      obtain ⟨eo', heo'⟩ : ∃ y_, y_ = row fI (sel yesE Ext.tag pre ++ [Ext.tag x]) := ⟨_, rfl⟩
      rw [show app 1 eo [[.int .i64 x.tag]] = some eo' by rw [heo']; exact F.push hb (fun _ => rfl) rfl (by omega)]; cbv
      refine ih (suf, pre ++ [x], eo', add .i64 i 1, some (x.tag, e1)) ⟨hi', hl2, by simp only; rw [heo', sel_t rfl]⟩ (by simp)
  | some jj =>
    obtain ⟨j1, j2⟩ := jj
    cbv
    cases suf with
    | nil =>
      rw [F.lt_f hi la (by simp [hl'])]; cbv
      rw [hQ1]; cbv
      rw [hQ]; cbv
      rw [← hr, het, hb, hl', List.append_nil]
    | cons x suf =>
      obtain ⟨ix, hix⟩ : ∃ y_, y_ = pre.length * 2 := ⟨_, rfl⟩
      have hpre : pre.length ≤ 1073741824 := by rw [hl'] at hl; simp at hl; omega
      have hs : (sel yesE Ext.tag pre).length ≤ pre.length := sel_len
      have hi' : At (add .i64 i 1) (pre ++ [x]).length := at_len (F.inc hi (by omega)) (by simp)
      have hl2 : l = (pre ++ [x]) ++ suf := by rw [hl']; simp
      have hmem : x ∈ l := by rw [hl']; simp
      obtain ⟨e1, he1⟩ : ∃ y_, y_ = row fI x.body := ⟨_, rfl⟩
      have p0 : at' 2 ea i = some (ix, [.int .i64 x.tag, .row () e1]) := by rw [hix, he1]; exact F.get hi hea hl' (fun _ => rfl) (by decide)
      rw [F.lt_t hi la (by simp [hl'])]; cbv
      rw [p0]; cbv
      rw [show allS [[.int .i64 x.tag]] = true by rw [F.allS]; rfl]; cbv
      obtain ⟨eo', heo'⟩ : ∃ y_, y_ = row fI (sel yesE Ext.tag pre ++ [Ext.tag x]) := ⟨_, rfl⟩
      rw [show app 1 eo [[.int .i64 x.tag]] = some eo' by rw [heo']; exact F.push hb (fun _ => rfl) rfl (by omega)]; cbv
      refine ih (suf, pre ++ [x], eo', add .i64 i 1, some (x.tag, e1)) ⟨hi', hl2, by simp only; rw [heo', sel_t rfl]⟩ (by simp)

/- impl.GivenUp -/
def inB (n : Int) : Bool := inR n 0 255
def thou (n : Int) : Int := 1000 + n
def tags (l : List Ext) : List Int := sel yesE Ext.tag l
theorem tags_map (l : List Ext) : tags l = l.map Ext.tag := by unfold tags sel; rw [show l.filter yesE = l from List.filter_eq_self.2 (fun _ _ => rfl)]
theorem hasI_tags (l : List Ext) (t : Int) : hasI (tags l) t = l.any (tagP t) := by
  rw [tags_map]; unfold hasI; rw [List.any_map]; rfl
theorem extOf_neg (l : List Ext) (t : Int) : decide (extOf l t < 0) = !hasI (tags l) t := by
  have h1 : decide (0 ≤ extOf l t) = l.any (tagP t) := ixOf_ge (tagP t) l 0 (by decide)
  rw [hasI_tags, ← h1]
  by_cases q : extOf l t < 0
  · simp [q]
  · simp [q]; omega
theorem givenV_eq (h x : Hello) : givenV h x = sel (notIn x.versions) idI h.versions ++ sel inB thou (sel (notIn (tags x.exts)) idI (tags h.exts)) := by
  unfold givenV
  congr 1
  rw [sel_idI, tags_map h.exts]
  induction h.exts with
  | nil => rfl
  | cons y l ih =>
    rw [show sel (gaP x) gaF (y :: l) = (if gaP x y = true then [gaF y] else []) ++ sel (gaP x) gaF l by unfold sel; rw [List.filter_cons]; split <;> simp, ih]
    rw [List.map_cons, List.filter_cons]
    have hg : gaP x y = (notIn (tags x.exts) y.tag && inB y.tag) := by unfold gaP notIn inB; rw [extOf_neg]
    rw [hg]
    cases h1 : notIn (tags x.exts) y.tag with
    | false => simp
    | true =>
      rw [if_pos rfl]
      unfold sel
      rw [List.filter_cons]
      cases h2 : inB y.tag with
      | false => simp
      | true => simp [gaF, thou]
theorem ok150 (h x : Hello) (a1 : h.versions.length ≤ 1048576) (a2 : x.versions.length ≤ 1048576) (a3 : h.exts.length ≤ 1048576) (a4 : x.exts.length ≤ 1048576) {f0 f1 f2 f3 : Fl} (q0 : inFl f0 = true) (q1 : inFl f1 = true) (q2 : inFl f2 = true) (q3 : inFl f3 = true) : fix Tb md 150 [sHello (row fI h.versions) (row fExt h.exts) f0 f1, sHello (row fI x.versions) (row fExt x.exts) f2 f3] = some ⟨[R (row fI (givenV h x)) (.ow false)], [], none⟩ := by
  obtain ⟨et, het⟩ : ∃ y_, y_ = row fI (givenV h x) := ⟨_, rfl⟩
  rw [← het]
  generalize hr : (⟨_, [], none⟩ : Ret) = r
  obtain ⟨dv, hdv⟩ : ∃ y_, y_ = row fI h.versions := ⟨_, rfl⟩
  obtain ⟨dx, hdx⟩ : ∃ y_, y_ = row fExt h.exts := ⟨_, rfl⟩
  obtain ⟨ev, hev⟩ : ∃ y_, y_ = row fI x.versions := ⟨_, rfl⟩
  obtain ⟨ex, hex⟩ : ∃ y_, y_ = row fExt x.exts := ⟨_, rfl⟩
  rw [← hdv, ← hdx, ← hev, ← hex]
  obtain ⟨W, hW⟩ : ∃ y_, y_ = sel (notIn x.versions) idI h.versions := ⟨_, rfl⟩
  obtain ⟨Z, hZ⟩ : ∃ y_, y_ = sel (notIn (tags x.exts)) idI (tags h.exts) := ⟨_, rfl⟩
  obtain ⟨ew, hew⟩ : ∃ y_, y_ = row fI W := ⟨_, rfl⟩
  obtain ⟨ez, hez⟩ : ∃ y_, y_ = row fI Z := ⟨_, rfl⟩
  obtain ⟨th, hth⟩ : ∃ y_, y_ = row fI (tags h.exts) := ⟨_, rfl⟩
  obtain ⟨tx, htx⟩ : ∃ y_, y_ = row fI (tags x.exts) := ⟨_, rfl⟩
  have hWl : W.length ≤ 1048576 := by rw [hW]; exact Nat.le_trans sel_len a1
  have htl : (tags h.exts).length ≤ 1048576 := Nat.le_trans sel_len a3
  have htx' : (tags x.exts).length ≤ 1048576 := Nat.le_trans sel_len a4
  have hZl : Z.length ≤ 1048576 := by rw [hZ]; exact Nat.le_trans sel_len htl
  refine fix_fn2 (fn := ir150) tb_150 rfl rfl (by decide) rfl ?_; intro Q hQ; simp only [shutArgs, shutS, List.map_cons, List.map_nil, ir150, shut_in q0, shut_in q1, shut_in q2, shut_in q3, List.head?_nil, reduceCtorEq, if_false, sExt, sHello, sAnswer, sEdit, sDeal, sBox, sDialed, sKnown]
  intro add sub mul arith eq ne lt le gt ge neg conv mn mx not beq len at' ln bd cut app allS isNil mks set o hP F ho
  have lz := F.len_at hez
  have c1 : o 287 [R dv (.sp 0 0), R ev (.sp 1 0)] = some ⟨[R ew (.ow false)], [], none⟩ := by rw [ho, hew, hW, hdv, hev]; exact ok287 _ _ (by omega) (by omega) rfl rfl
  have c2 : o 179 [R dx (.sp 0 0)] = some ⟨[R th (.ow false)], [], none⟩ := by rw [ho, hth, hdx]; exact ok179 _ (by omega) rfl
  have c3 : o 179 [R ex (.sp 0 0)] = some ⟨[R tx (.ow false)], [], none⟩ := by rw [ho, htx, hex]; exact ok179 _ (by omega) rfl
  have c4 : o 287 [R th (.sp 0 0), R tx (.sp 1 0)] = some ⟨[R ez (.ow false)], [], none⟩ := by rw [ho, hez, hZ, hth, htx]; exact ok287 _ _ (by omega) (by omega) rfl rfl
  cbv
  rw [c1]; cbv
  rw [c2]; cbv
  rw [c3]; cbv
  rw [c4]; cbv
  refine loop_ind2 hP (σ := List Int × List Int × List (List V) × Int × Option Int) (fun s => match s.2.2.2.2 with
    | none => [(0, sHello dv dx .sh .sh), (1, sHello ev ex .sh .sh), (2, ⟨.ptr 36 0, []⟩), (3, ⟨.ptr 37 0, []⟩), (4, R [] .nl), (5, R s.2.2.1 (.ow false)), (19, R ez (.ow false)), (20, I (len ez)), (21, I s.2.2.2.1), (36, ⟨.box (), [⟨.row () dv, .sh⟩, ⟨.row () dx, .sh⟩]⟩), (37, ⟨.box (), [⟨.row () ev, .sh⟩, ⟨.row () ex, .sh⟩]⟩)]
    | some j => [(0, sHello dv dx .sh .sh), (1, sHello ev ex .sh .sh), (2, ⟨.ptr 36 0, []⟩), (3, ⟨.ptr 37 0, []⟩), (4, R [] .nl), (5, R s.2.2.1 (.ow false)), (7, I j), (19, R ez (.ow false)), (20, I (len ez)), (21, I s.2.2.2.1), (36, ⟨.box (), [⟨.row () dv, .sh⟩, ⟨.row () dx, .sh⟩]⟩), (37, ⟨.box (), [⟨.row () ev, .sh⟩, ⟨.row () ex, .sh⟩]⟩)]) (fun s => At s.2.2.2.1 s.2.1.length ∧ Z = s.2.1 ++ s.1 ∧ s.2.2.1 = row fI (W ++ sel inB thou s.2.1)) (fun s => s.1.length) (Z, [], ew, 0, none) rfl ⟨rfl, rfl, by rw [hew]; simp [sel]⟩ ?_
  intro c1 Q1 hc1 hQ1
  rintro ⟨suf, pre, eo, i, j⟩ ⟨hi, hl', hb⟩ ih
  simp only at hi hl' hb ih
  cases j with
  | none =>
    cbv
    cases suf with
    | nil =>
      rw [F.lt_f hi lz (by simp [hl'])]; cbv
      rw [hQ1]; cbv
      rw [hQ]; cbv
      rw [← hr, het, hb, givenV_eq, ← hZ, hl', List.append_nil, hW]
    | cons y suf =>
      obtain ⟨ix, hix⟩ : ∃ y_, y_ = pre.length * 1 := ⟨_, rfl⟩
      have hpre : pre.length ≤ 1048576 := by rw [hl'] at hZl; simp at hZl; omega
      have hs : (sel inB thou pre).length ≤ pre.length := sel_len
      have hi' : At (add .i64 i 1) (pre ++ [y]).length := at_len (F.inc hi (by omega)) (by simp)
      have hl2 : Z = (pre ++ [y]) ++ suf := by rw [hl']; simp
      have p0 : at' 1 ez i = some (ix, [.int .i64 y]) := by rw [hix]; exact F.get hi hez hl' (fun _ => rfl) (by decide)
      obtain ⟨b2, hb2⟩ : ∃ y_, y_ = inB y := ⟨_, rfl⟩
      have c5 : o 232 [I y, I 0, I 255] = some ⟨[B b2], [], none⟩ := by rw [ho, hb2]; exact ok232 ..
      obtain ⟨eo', heo'⟩ : ∃ y_, y_ = row fI (W ++ sel inB thou pre ++ [thou y]) := ⟨_, rfl⟩
      have q1 : b2 = true → app 1 eo [[.int .i64 (add .i64 1000 y)]] = some eo' := by
        intro q
        rw [hb2] at q
        simp [inB, inR] at q
        rw [show add .i64 1000 y = thou y by rw [F.add, wrap64 (by omega) (by omega)]; rfl, heo']
        exact F.push hb (fun _ => rfl) rfl (by rw [List.length_append]; omega)
      have q2 : allS [[.int .i64 (add .i64 1000 y)]] = true := by rw [F.allS]; rfl
      rw [F.lt_t hi lz (by simp [hl'])]; cbv
      rw [p0]; cbv
      rw [c5]; cbv
      refine both (fun d2 => ?_) (fun d2 => ?_) <;> rw [d2] <;> cbv
      · rw [q2]; cbv
        rw [q1 d2]; cbv
        refine ih (suf, pre ++ [y], eo', add .i64 i 1, some y) ⟨hi', hl2, by simp only; rw [heo', sel_t (by rw [← hb2, d2])]; simp⟩ (by simp)
      · refine ih (suf, pre ++ [y], eo, add .i64 i 1, some y) ⟨hi', hl2, by simp only; rw [hb, sel_f (by rw [← hb2, d2])]⟩ (by simp)
  | some jj =>
    cbv
    cases suf with
    | nil =>
      rw [F.lt_f hi lz (by simp [hl'])]; cbv
      rw [hQ1]; cbv
      rw [hQ]; cbv
      rw [← hr, het, hb, givenV_eq, ← hZ, hl', List.append_nil, hW]
    | cons y suf =>
      obtain ⟨ix, hix⟩ : ∃ y_, y_ = pre.length * 1 := ⟨_, rfl⟩
      have hpre : pre.length ≤ 1048576 := by rw [hl'] at hZl; simp at hZl; omega
      have hs : (sel inB thou pre).length ≤ pre.length := sel_len
      have hi' : At (add .i64 i 1) (pre ++ [y]).length := at_len (F.inc hi (by omega)) (by simp)
      have hl2 : Z = (pre ++ [y]) ++ suf := by rw [hl']; simp
      have p0 : at' 1 ez i = some (ix, [.int .i64 y]) := by rw [hix]; exact F.get hi hez hl' (fun _ => rfl) (by decide)
      obtain ⟨b2, hb2⟩ : ∃ y_, y_ = inB y := ⟨_, rfl⟩
      have c5 : o 232 [I y, I 0, I 255] = some ⟨[B b2], [], none⟩ := by rw [ho, hb2]; exact ok232 ..
      obtain ⟨eo', heo'⟩ : ∃ y_, y_ = row fI (W ++ sel inB thou pre ++ [thou y]) := ⟨_, rfl⟩
      have q1 : b2 = true → app 1 eo [[.int .i64 (add .i64 1000 y)]] = some eo' := by
        intro q
        rw [hb2] at q
        simp [inB, inR] at q
        rw [show add .i64 1000 y = thou y by rw [F.add, wrap64 (by omega) (by omega)]; rfl, heo']
        exact F.push hb (fun _ => rfl) rfl (by rw [List.length_append]; omega)
      have q2 : allS [[.int .i64 (add .i64 1000 y)]] = true := by rw [F.allS]; rfl
      rw [F.lt_t hi lz (by simp [hl'])]; cbv
      rw [p0]; cbv
      rw [c5]; cbv
      refine both (fun d2 => ?_) (fun d2 => ?_) <;> rw [d2] <;> cbv
      · rw [q2]; cbv
        rw [q1 d2]; cbv
        refine ih (suf, pre ++ [y], eo', add .i64 i 1, some y) ⟨hi', hl2, by simp only; rw [heo', sel_t (by rw [← hb2, d2])]; simp⟩ (by simp)
      · refine ih (suf, pre ++ [y], eo, add .i64 i 1, some y) ⟨hi', hl2, by simp only; rw [hb, sel_f (by rw [← hb2, d2])]⟩ (by simp)

/- impl.IsReserved -/
theorem ok337 (t : Int) : fix Tb md 337 [I t] = some ⟨[B (resv t)], [], none⟩ := by
  obtain ⟨a, ha⟩ : ∃ y_, y_ = inR t 0 255 := ⟨_, rfl⟩
  obtain ⟨n, hn⟩ : ∃ y_, y_ = Int.tmod t 16 := ⟨_, rfl⟩
  obtain ⟨b, hb⟩ : ∃ y_, y_ = decide (n = 10) := ⟨_, rfl⟩
  rw [show resv t = (a && b) by rw [ha, hb, hn]; rfl]
  generalize hr : (⟨_, [], none⟩ : Ret) = r
  refine fix_fn2 (fn := ir337) tb_337 rfl rfl (by decide) rfl ?_; intro Q hQ; simp only [shutArgs, shutS, List.map_cons, List.map_nil, ir337, List.head?_nil, reduceCtorEq, if_false, sExt, sHello, sAnswer, sEdit, sDeal, sBox, sDialed, sKnown]
  intro add sub mul arith eq ne lt le gt ge neg conv mn mx not beq len at' ln bd cut app allS isNil mks set o hP F ho
  have c1 : o 232 [I t, I 0, I 255] = some ⟨[B a], [], none⟩ := by rw [ho, ha]; exact ok232 ..
  have g1 : arith .rem .i64 t 16 = some (.int .i64 n) := by rw [F.arith, hn]; rfl
  have g2 : eq n 10 = b := by rw [F.eq, hb]
  cbv
  rw [c1]; cbv
  refine both (fun d => ?_) (fun d => ?_) <;> rw [d] <;> cbv
  · rw [g1]; cbv
    rw [hQ]; cbv
    rw [g2, ← hr, d]; rfl
  · rw [hQ]; cbv
    rw [← hr, d]; rfl

/- impl.IsHardened -/
theorem ok223 (l : List Int) (hl : l.length ≤ 1099511627776) {f0 : Fl} (h0 : inFl f0 = true) : fix Tb md 223 [R (row fI l) f0] = some ⟨[B (l.any resv)], [], none⟩ := by
  obtain ⟨v, hv⟩ : ∃ y_, y_ = l.any resv := ⟨_, rfl⟩
  rw [← hv]
  generalize hr : (⟨_, [], none⟩ : Ret) = r
  obtain ⟨ea, hea⟩ : ∃ y_, y_ = row fI l := ⟨_, rfl⟩
  rw [← hea]
  refine fix_fn2 (fn := ir223) tb_223 rfl rfl (by decide) rfl ?_; intro Q hQ; simp only [shutArgs, shutS, List.map_cons, List.map_nil, ir223, shut_in h0, List.head?_nil, reduceCtorEq, if_false, sExt, sHello, sAnswer, sEdit, sDeal, sBox, sDialed, sKnown]
  intro add sub mul arith eq ne lt le gt ge neg conv mn mx not beq len at' ln bd cut app allS isNil mks set o hP F ho
  have c1 : o 336 [R ea (.sp 0 0), ⟨.val, [⟨.fn 337 [], .sh⟩]⟩] = some ⟨[B v], [], none⟩ := by rw [ho, hv, hea]; exact ok336_0 337 rfl resv l hl (fun x _ => ok337 x) rfl
  cbv
  rw [c1]; cbv
  rw [hQ]; cbv
  exact congrArg some hr

/- impl.HasGrease -/
theorem ok303 (l : List Ext) (hl : l.length ≤ 1073741824) {f0 : Fl} (h0 : inFl f0 = true) : fix Tb md 303 [R (row fExt l) f0] = some ⟨[B ((tags l).any resv)], [], none⟩ := by
  obtain ⟨v, hv⟩ : ∃ y_, y_ = (tags l).any resv := ⟨_, rfl⟩
  rw [← hv]
  have ht : (tags l).length ≤ l.length := sel_len
  generalize hr : (⟨_, [], none⟩ : Ret) = r
  obtain ⟨ea, hea⟩ : ∃ y_, y_ = row fExt l := ⟨_, rfl⟩
  rw [← hea]
  obtain ⟨et, het⟩ : ∃ y_, y_ = row fI (tags l) := ⟨_, rfl⟩
  refine fix_fn2 (fn := ir303) tb_303 rfl rfl (by decide) rfl ?_; intro Q hQ; simp only [shutArgs, shutS, List.map_cons, List.map_nil, ir303, shut_in h0, List.head?_nil, reduceCtorEq, if_false, sExt, sHello, sAnswer, sEdit, sDeal, sBox, sDialed, sKnown]
  intro add sub mul arith eq ne lt le gt ge neg conv mn mx not beq len at' ln bd cut app allS isNil mks set o hP F ho
  have c1 : o 179 [R ea (.sp 0 0)] = some ⟨[R et (.ow false)], [], none⟩ := by rw [ho, het, hea]; exact ok179 _ hl rfl
  have c2 : o 223 [R et (.sp 0 0)] = some ⟨[B v], [], none⟩ := by rw [ho, hv, het]; exact ok223 _ (by omega) rfl
  cbv
  rw [c1]; cbv
  rw [c2]; cbv
  rw [hQ]; cbv
  exact congrArg some hr

/- impl.FitsHello -/
theorem fitsV_eq (h : Hello) (a : Answer) : fitsV h a = (isHel h && isAns a.version a.exts && hasI h.versions a.version && decide ((sel (notIn (tags h.exts)) idI (tags a.exts)).length = 0) && !(tags a.exts).any resv) := by
  rw [notIn_nil]
  have e : a.exts.all (okT h) = ((tags a.exts).all (hasI (tags h.exts)) && !(tags a.exts).any resv) := by
    rw [tags_map a.exts]
    induction a.exts with
    | nil => rfl
    | cons y l ih =>
      rw [List.all_cons, ih, List.map_cons, List.all_cons, List.any_cons, okT, extOf_neg]
      cases hasI (tags h.exts) y.tag <;> cases resv y.tag <;> simp
  rw [fitsV, e]
  cases isHel h <;> cases isAns a.version a.exts <;> cases hasI h.versions a.version <;> simp
theorem ok161 (h : Hello) (a : Answer) (mh : h.Mid) (ma : a.Mid) {f0 f1 f2 : Fl} (q0 : inFl f0 = true) (q1 : inFl f1 = true) (q2 : inFl f2 = true) : fix Tb md 161 [sHello (row fI h.versions) (row fExt h.exts) f0 f1, sAnswer a.version (row fExt a.exts) f2] = some ⟨[B (fitsV h a)], [], none⟩ := by
  unfold Hello.Mid at mh
  unfold Answer.Mid at ma
  obtain ⟨u1, hu1⟩ : ∃ y_, y_ = isHel h := ⟨_, rfl⟩
  obtain ⟨u2, hu2⟩ : ∃ y_, y_ = isAns a.version a.exts := ⟨_, rfl⟩
  obtain ⟨u3, hu3⟩ : ∃ y_, y_ = hasI h.versions a.version := ⟨_, rfl⟩
  obtain ⟨u4, hu4⟩ : ∃ y_, y_ = decide ((sel (notIn (tags h.exts)) idI (tags a.exts)).length = 0) := ⟨_, rfl⟩
  obtain ⟨u5, hu5⟩ : ∃ y_, y_ = (tags a.exts).any resv := ⟨_, rfl⟩
  rw [fitsV_eq, ← hu1, ← hu2, ← hu3, ← hu4, ← hu5]
  generalize hr : (⟨_, [], none⟩ : Ret) = r
  obtain ⟨dv, hdv⟩ : ∃ y_, y_ = row fI h.versions := ⟨_, rfl⟩
  obtain ⟨dx, hdx⟩ : ∃ y_, y_ = row fExt h.exts := ⟨_, rfl⟩
  obtain ⟨ex, hex⟩ : ∃ y_, y_ = row fExt a.exts := ⟨_, rfl⟩
  rw [← hdv, ← hdx, ← hex]
  obtain ⟨th, hth⟩ : ∃ y_, y_ = row fI (tags h.exts) := ⟨_, rfl⟩
  obtain ⟨ta, hta⟩ : ∃ y_, y_ = row fI (tags a.exts) := ⟨_, rfl⟩
  obtain ⟨ez, hez⟩ : ∃ y_, y_ = row fI (sel (notIn (tags h.exts)) idI (tags a.exts)) := ⟨_, rfl⟩
  have tl1 : (tags h.exts).length ≤ h.exts.length := sel_len
  have tl2 : (tags a.exts).length ≤ a.exts.length := sel_len
  have wh : ∀ y ∈ h.exts, y.body.length ≤ 1099511627776 := fun y hy => Nat.le_trans (show y.body.length ≤ 1073741824 from mh.2.2 y hy) (by decide)
  have wa : ∀ y ∈ a.exts, y.body.length ≤ 1099511627776 := fun y hy => Nat.le_trans (show y.body.length ≤ 1073741824 from ma.2 y hy) (by decide)
  refine fix_fn2 (fn := ir161) tb_161 rfl rfl (by decide) rfl ?_; intro Q hQ; simp only [shutArgs, shutS, List.map_cons, List.map_nil, ir161, shut_in q0, shut_in q1, shut_in q2, List.head?_nil, reduceCtorEq, if_false, sExt, sHello, sAnswer, sEdit, sDeal, sBox, sDialed, sKnown]
  intro add sub mul arith eq ne lt le gt ge neg conv mn mx not beq len at' ln bd cut app allS isNil mks set o hP F ho
  have lz := F.len_at hez
  have c1 : o 113 [sHello dv dx (.sp 0 0) (.sp 0 1)] = some ⟨[B u1], [], none⟩ := by rw [ho, hu1, hdv, hdx]; exact ok113 _ (by omega) (by omega) wh rfl rfl
  have c2 : o 118 [sAnswer a.version ex (.sp 0 1)] = some ⟨[B u2], [], none⟩ := by rw [ho, hu2, hex]; exact ok118 _ _ (by omega) wa rfl
  have c3 : o 302 [R dv (.sp 0 0), I a.version] = some ⟨[B u3], [], none⟩ := by rw [ho, hu3, hdv]; exact ok302 _ _ (by omega) rfl
  have c4 : o 179 [R ex (.sp 0 0)] = some ⟨[R ta (.ow false)], [], none⟩ := by rw [ho, hta, hex]; exact ok179 _ (by omega) rfl
  have c5 : o 179 [R dx (.sp 0 0)] = some ⟨[R th (.ow false)], [], none⟩ := by rw [ho, hth, hdx]; exact ok179 _ (by omega) rfl
  have c6 : o 287 [R ta (.sp 0 0), R th (.sp 1 0)] = some ⟨[R ez (.ow false)], [], none⟩ := by rw [ho, hez, hth, hta]; exact ok287 _ _ (by omega) (by omega) rfl rfl
  have c7 : o 303 [R ex (.sp 0 0)] = some ⟨[B u5], [], none⟩ := by rw [ho, hu5, hex]; exact ok303 _ (by omega) rfl
  have g1 : eq (len ez) 0 = u4 := by rw [F.eq_n lz (k := 0) (m := 0) rfl, hu4]
  cbv
  rw [c1]; cbv
  refine both (fun d1 => ?_) (fun d1 => ?_) <;> rw [d1] <;> cbv
  rotate_left
  · rw [hQ]; cbv
    rw [← hr, d1]; rfl
  rw [c2]; cbv
  refine both (fun d2 => ?_) (fun d2 => ?_) <;> rw [d2] <;> cbv
  rotate_left
  · rw [hQ]; cbv
    rw [← hr, d1, d2]; rfl
  rw [c3]; cbv
  refine both (fun d3 => ?_) (fun d3 => ?_) <;> rw [d3] <;> cbv
  rotate_left
  · rw [hQ]; cbv
    rw [← hr, d1, d2, d3]; rfl
  rw [c4]; cbv
  rw [c5]; cbv
  rw [c6]; cbv
  rw [g1]; cbv
  refine both (fun d4 => ?_) (fun d4 => ?_) <;> rw [d4] <;> cbv
  rotate_left
  · rw [hQ]; cbv
    rw [← hr, d1, d2, d3, d4]; rfl
  rw [c7]; cbv
  rw [hQ]; cbv
  rw [← hr, d1, d2, d3, d4, F.not]; rfl

/- laws.eqHello -/
theorem ok78 (x : Hello) (w : x.Mid) {f0 f1 : Fl} (q0 : inFl f0 = true) (q1 : inFl f1 = true) {g0 g1 : Fl} (p0 : inFl g0 = true) (p1 : inFl g1 = true) :
    fix Tb md 78 [sHello (row fI x.versions) (row fExt x.exts) f0 f1, sHello (row fI x.versions) (row fExt x.exts) g0 g1] = some ⟨[B true], [], none⟩ := by
  refine fix_fn (fn := ir78) tb_78 rfl rfl (by decide) rfl ?_; simp only [shutArgs, shutS, List.map_cons, List.map_nil, ir78, shut_in q0, shut_in q1, shut_in p0, shut_in p1, List.head?_nil, reduceCtorEq, if_false, sExt, sHello, sAnswer, sEdit, sDeal, sBox, sDialed, sKnown]
  generalize hr : (⟨_, [], none⟩ : Ret) = r
  obtain ⟨e1, he1⟩ : ∃ y_, y_ = row fI x.versions := ⟨_, rfl⟩
  obtain ⟨e2, he2⟩ : ∃ y_, y_ = row fExt x.exts := ⟨_, rfl⟩
  rw [← he1, ← he2]
  unfold Hello.Mid at w
  intro add sub mul arith eq ne lt le gt ge neg conv mn mx not beq len at' ln bd cut app allS isNil mks set o hP F ho
  have c1 : o 79 [R e1 (.sp 0 0), R e1 (.sp 1 0)] = some ⟨[B true], [], none⟩ := by rw [ho, he1]; exact ok79t _ (by have := w.1; omega) rfl rfl
  have c2 : o 200 [R e2 (.sp 0 0), R e2 (.sp 1 0)] = some ⟨[B true], [], none⟩ := by rw [ho, he2]; exact ok200 _ w.2 rfl rfl
  cbv
  rw [c1]; cbv
  rw [show not true = false by rw [F.not]; rfl]; cbv
  rw [c2]; cbv
  rw [show not true = false by rw [F.not]; rfl]; cbv
  exact congrArg some hr

/- laws.szHello -/
theorem ok83 (x : Hello) (left : Int) (w : x.Fits) (h1 : 0 ≤ left) (h2 : left ≤ 1048576) {f0 f1 : Fl} (q0 : inFl f0 = true) (q1 : inFl f1 = true) :
    fix Tb md 83 [sHello (row fI x.versions) (row fExt x.exts) f0 f1, I left] = some ⟨[I (szHello x left)], [], none⟩ := by
  refine fix_fn (fn := ir83) tb_83 rfl rfl (by decide) rfl ?_; simp only [shutArgs, shutS, List.map_cons, List.map_nil, ir83, shut_in q0, shut_in q1, List.head?_nil, reduceCtorEq, if_false, sExt, sHello, sAnswer, sEdit, sDeal, sBox, sDialed, sKnown]
  obtain ⟨v1, hv1⟩ : ∃ y_, y_ = sz1 x.versions.length left := ⟨_, rfl⟩
  obtain ⟨v2, hv2⟩ : ∃ y_, y_ = szL szExt x.exts v1 := ⟨_, rfl⟩
  rw [show szHello x left = v2 by rw [hv2, hv1]; rfl]
  generalize hr : (⟨_, [], none⟩ : Ret) = r
  obtain ⟨e1, he1⟩ : ∃ y_, y_ = row fI x.versions := ⟨_, rfl⟩
  obtain ⟨e2, he2⟩ : ∃ y_, y_ = row fExt x.exts := ⟨_, rfl⟩
  rw [← he1, ← he2]
  have g1 : v1 ≤ 1048576 := by rw [hv1]; exact (Sz.of1 x.versions.length).up h2
  have l1 : -1 ≤ v1 := by rw [hv1]; exact (Sz.of1 x.versions.length).lo _ h2
  have g2 : v2 ≤ 1048576 := by rw [hv2]; exact (Sz.list szExt_Sz x.exts).up g1
  have l2 : -1 ≤ v2 := by rw [hv2]; exact (Sz.list szExt_Sz x.exts).lo _ g1
  have n2 : v1 < 0 → v2 = -1 := fun q => by rw [hv2]; exact (Sz.list szExt_Sz x.exts).neg _ q
  unfold Hello.Fits at w
  intro add sub mul arith eq ne lt le gt ge neg conv mn mx not beq len at' ln bd cut app allS isNil mks set o hP F ho
  have c1 : o 227 [R e1 (.sp 0 0), I left] = some ⟨[I v1], [], none⟩ := by rw [ho, hv1, he1]; exact ok227 fI _ _ w.1.1 h1 h2 rfl
  have c2 : 0 ≤ v1 → o 197 [R e2 (.sp 0 0), I v1] = some ⟨[I v2], [], none⟩ := by intro q; rw [ho, hv2, he2]; exact ok197 _ _ w.2 q g1 rfl
  cbv
  rw [c1]; cbv
  refine both (fun d1 => ?_) (fun d1 => ?_) <;> rw [d1] <;> cbv
  · clear hP c1 c2 ho; simp only [F.lt, decide_eq_true_eq] at d1; clear F; rw [← hr, show v2 = -1 by omega]
  rw [c2 (by simp only [F.lt, decide_eq_false_iff_not] at d1; omega)]; cbv
  refine both (fun d2 => ?_) (fun d2 => ?_) <;> rw [d2] <;> cbv
  · clear hP c1 c2 ho; simp only [F.lt, decide_eq_true_eq] at d2; clear F; rw [← hr, show v2 = -1 by omega]
  exact congrArg some hr

/- laws.toHello -/
theorem ok85 (x : Hello) (w : x.Mid) {f0 f1 : Fl} (q0 : inFl f0 = true) (q1 : inFl f1 = true) :
    fix Tb md 85 [sHello (row fI x.versions) (row fExt x.exts) f0 f1] = some ⟨[sHello (row fI x.versions) (row fExt x.exts) (.ow false) (.ow false)], [], none⟩ := by
  refine fix_fn (fn := ir85) tb_85 rfl rfl (by decide) rfl ?_; simp only [shutArgs, shutS, List.map_cons, List.map_nil, ir85, shut_in q0, shut_in q1, List.head?_nil, reduceCtorEq, if_false, sExt, sHello, sAnswer, sEdit, sDeal, sBox, sDialed, sKnown]
  generalize hr : (⟨_, [], none⟩ : Ret) = r
  obtain ⟨e1, he1⟩ : ∃ y_, y_ = row fI x.versions := ⟨_, rfl⟩
  obtain ⟨e2, he2⟩ : ∃ y_, y_ = row fExt x.exts := ⟨_, rfl⟩
  rw [← he1, ← he2] at hr ⊢
  unfold Hello.Mid at w
  intro add sub mul arith eq ne lt le gt ge neg conv mn mx not beq len at' ln bd cut app allS isNil mks set o hP F ho
  have c1 : o 76 [R e1 (.sp 0 0)] = some ⟨[R e1 (.ow false)], [], none⟩ := by rw [ho, he1]; exact ok76 _ (by have := w.1; omega) rfl
  have c2 : o 199 [R e2 (.sp 0 0)] = some ⟨[R e2 (.ow false)], [], none⟩ := by rw [ho, he2]; exact ok199 _ w.2 rfl
  cbv
  rw [c1]; cbv
  rw [c2]; cbv
  exact congrArg some hr

/- laws.FnExactFitsHello -/
theorem law32 (h : Hello) (wh : h.Fits) (a : Answer) (wa : a.Fits) :
    fix Tb md 32 [sHello (row fI h.versions) (row fExt h.exts) (.sp 0 0) (.sp 0 1), sAnswer a.version (row fExt a.exts) (.sp 1 1)] = some ⟨[B true], [], none⟩ := by
  refine fix_fn (fn := ir32) tb_32 rfl rfl (by decide) rfl ?_; simp only [shutArgs, shutS, List.map_cons, List.map_nil, ir32, List.head?_nil, reduceCtorEq, if_false, sExt, sHello, sAnswer, sEdit, sDeal, sBox, sDialed, sKnown, shut_in (f := .sp 0 0) rfl, shut_in (f := .sp 0 1) rfl, shut_in (f := .sp 1 1) rfl]
  generalize hr : (⟨_, [], none⟩ : Ret) = r
  obtain ⟨e1, he1⟩ : ∃ y_, y_ = row fI h.versions := ⟨_, rfl⟩
  obtain ⟨e2, he2⟩ : ∃ y_, y_ = row fExt h.exts := ⟨_, rfl⟩
  obtain ⟨e3, he3⟩ : ∃ y_, y_ = row fExt a.exts := ⟨_, rfl⟩
  rw [← he1, ← he2, ← he3]
  obtain ⟨v1, hv1⟩ : ∃ y_, y_ = szHello h 1048576 := ⟨_, rfl⟩
  have u1 : v1 ≤ 1048576 := by rw [hv1]; exact (szHello_Sz h).up (by decide)
  have s1 := fun q : 0 ≤ v1 => (szHello_Sz h).ok 1048576 (by decide) (hv1 ▸ q)
  obtain ⟨v2, hv2⟩ : ∃ y_, y_ = szAnswer a v1 := ⟨_, rfl⟩
  have u2 : v2 ≤ 1048576 := by rw [hv2]; exact (szAnswer_Sz a).up u1
  have s2 := fun q : 0 ≤ v2 => (szAnswer_Sz a).ok v1 u1 (hv2 ▸ q)
  obtain ⟨w, hw⟩ : ∃ y_, y_ = fitsV h a := ⟨_, rfl⟩
  intro add sub mul arith eq ne lt le gt ge neg conv mn mx not beq len at' ln bd cut app allS isNil mks set o hP F ho
  have b1 : o 83 [sHello e1 e2 (.sp 0 0) (.sp 0 1), I 1048576] = some ⟨[I v1], [], none⟩ := by rw [ho, hv1, he1, he2]; exact ok83 h _ wh (by decide) (by decide) rfl rfl 
  have b2 : 0 ≤ v1 → o 126 [sAnswer a.version e3 (.sp 0 1), I v1] = some ⟨[I v2], [], none⟩ := by intro q; rw [ho, hv2, he3]; exact ok126 a _ wa q u1 rfl 
  cbv
  rw [b1]; cbv
  refine both (fun d1 => ?_) (fun d1 => ?_) <;> rw [d1] <;> cbv
  · exact congrArg some hr
  have p1 : 0 ≤ v1 := by simp only [F.lt, decide_eq_false_iff_not] at d1; omega
  have th := s1 p1
  have thm := th.mid
  have rh := th
  unfold Hello.Small at rh
  rw [b2 p1]; cbv
  refine both (fun d2 => ?_) (fun d2 => ?_) <;> rw [d2] <;> cbv
  · exact congrArg some hr
  have p2 : 0 ≤ v2 := by simp only [F.lt, decide_eq_false_iff_not] at d2; omega
  have ta := s2 p2
  have tam := ta.mid
  have ra := ta
  unfold Answer.Small at ra
  have kh : o 85 [sHello e1 e2 (.sp 0 0) (.sp 0 1)] = some ⟨[sHello e1 e2 (.ow false) (.ow false)], [], none⟩ := by rw [ho, he1, he2]; exact ok85 h thm rfl rfl 
  have qh : o 78 [sHello e1 e2 (.sp 0 0) (.sp 0 1), sHello e1 e2 (.sp 1 0) (.sp 1 1)] = some ⟨[B true], [], none⟩ := by rw [ho, he1, he2]; exact ok78 h thm rfl rfl  rfl rfl 
  have ka : o 128 [sAnswer a.version e3 (.sp 0 1)] = some ⟨[sAnswer a.version e3 (.ow false)], [], none⟩ := by rw [ho, he3]; exact ok128 a tam rfl 
  have qa : o 129 [sAnswer a.version e3 (.sp 0 1), sAnswer a.version e3 (.sp 1 1)] = some ⟨[B true], [], none⟩ := by rw [ho, he3]; exact ok129 a tam rfl  rfl 
  have m1 : o 160 [sHello e1 e2 (.sp 0 0) (.sp 0 1), sAnswer a.version e3 (.sp 1 1)] = some ⟨[B w], [], none⟩ := by rw [ho, hw, he1, he2, he3]; exact ok160 h a thm tam rfl rfl rfl
  have m2 : o 161 [sHello e1 e2 (.sp 0 0) (.sp 0 1), sAnswer a.version e3 (.sp 1 1)] = some ⟨[B w], [], none⟩ := by rw [ho, hw, he1, he2, he3]; exact ok161 h a thm tam rfl rfl rfl
  repeat' (first | (rw [kh]; cbv) | (rw [qh]; cbv) | (rw [ka]; cbv) | (rw [qa]; cbv) | (rw [m1]; cbv) | (rw [m2]; cbv) | (rw [F.ne_f rfl]; cbv) | (rw [show not (beq w w) = false by rw [F.not, F.beq]; simp]; cbv) | (rw [show not true = false by rw [F.not]; rfl]; cbv) | exact congrArg some hr)
theorem ans32 : Answers Tb md 32 [(true, [.row [.int .i64], .row [.int .i64, .row [.int .i64]]]), (true, [.int .i64, .row [.int .i64, .row [.int .i64]]])] := answers_of (by
  intro vs h_
  obtain ⟨h, rfl, wh⟩ := fitL_Hello h_
  intro vs h_
  obtain ⟨a, rfl, wa⟩ := fitL_Answer h_
  exact law32 h wh a wa)

end Go.Vm
