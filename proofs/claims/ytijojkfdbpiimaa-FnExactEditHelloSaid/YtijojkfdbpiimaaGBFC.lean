/- What the functions answer. -/
import Derived.Test.YtijojkfdbpiimaaGBTab
import Derived.Test.YtijojkfdbpiimaaGBFA
import Derived.Test.YtijojkfdbpiimaaGBFB
set_option maxHeartbeats 4000000
set_option maxRecDepth 10000
set_option linter.unusedVariables false
set_option linter.unusedSimpArgs false
namespace Go.Vm
def tagIn (b : List Int) (e : Ext) : Bool := hasI b e.tag
theorem ok307 (l : List Ext) (b : List Int) (hl : l.length ≤ 1073741824) (hb' : b.length ≤ 1073741824) (w : ∀ y ∈ l, y.body.length ≤ 1099511627776) {f0 f1 : Fl} (h0 : inFl f0 = true) (h1 : inFl f1 = true) : fix Tb md 307 [R (row fExt l) f0, R (row fI b) f1] = some ⟨[R (row fExt (sel (tagIn b) idE l)) (.ow false)], [], none⟩ := by
 obtain ⟨et, het⟩ := nm (row fExt (sel (tagIn b) idE l))
 rw [← het]
 generalize hr : (⟨_, [], none⟩ : Ret) = r
 obtain ⟨ea, hea⟩ := nm (row fExt l)
 obtain ⟨eb, heb⟩ := nm (row fI b)
 rw [← hea, ← heb]
 refine fix_fn2 (fn := ir307) tb_307 rfl rfl (by decide) rfl ?_; intro Q hQ; simp only [shutArgs, shutS, List.map_cons, List.map_nil, ir307, shut_in h0, shut_in h1, List.head?_nil, reduceCtorEq, if_false, sExt, sHello, sAnswer, sEdit, sDeal, sBox, sDialed, sKnown]
 intro add sub mul arith eq ne lt le gt ge neg conv mn mx not beq len at' ln bd cut app allS isNil mks set o hP F ho
 have la := F.len_at hea
 cbv
 refine loop_ind2 hP (σ := List Ext × List Ext × List (List V) × Int) (fun s => [(0, R ea .sh), (1, R eb .sh), (4, R [] .nl), (5, R s.2.2.1 (.ow false)), (6, I s.2.2.2)]) (fun s => At s.2.2.2 s.2.1.length ∧ l = s.2.1 ++ s.1 ∧ s.2.2.1 = row fExt (sel (tagIn b) idE s.2.1)) (fun s => s.1.length) (l, [], [], 0) rfl ⟨rfl, rfl, rfl⟩ ?_
 intro c1 Q1 hc1 hQ1
 rintro ⟨suf, pre, eo, i⟩ ⟨hi, hl', hb⟩ ih
 simp only at hi hl' hb ih
 cbv
 cases suf with
 | nil =>
  rw [F.lt_f hi la (by simp [hl'])]; cbv
  rw [hQ1]; cbv
  rw [hQ]; cbv
  rw [← hr, het, hb, hl', List.append_nil]
 | cons x suf =>
  obtain ⟨ix, hix⟩ := nm (pre.length * 2)
  have hpre : pre.length ≤ 1073741824 := by rw [hl'] at hl; simp at hl; omega
  have hs : (sel (tagIn b) idE pre).length ≤ pre.length := sel_len
  have hi' : At (add .i64 i 1) (pre ++ [x]).length := at_len (F.inc hi (by omega)) (by simp)
  have hl2 : l = (pre ++ [x]) ++ suf := by rw [hl']; simp
  have hmem : x ∈ l := by rw [hl']; simp
  obtain ⟨e1, he1⟩ := nm (row fI x.body)
  have hx := w x hmem
  have p0 : at' 2 ea i = some (ix, [.int .i64 x.tag, .row () e1]) := by rw [hix, he1]; exact F.get hi hea hl' (fun _ => rfl) (by decide)
  obtain ⟨v, hv⟩ := nm (tagIn b x)
  have c2 : o 285 [R eb (.sp 0 0), I x.tag] = some ⟨[B v], [], none⟩ := by rw [ho, hv, heb]; exact ok285 _ _ (by omega) rfl
  rw [F.lt_t hi la (by simp [hl'])]; cbv
  rw [p0]; cbv
  rw [c2]; cbv
  refine both (fun d => ?_) (fun d => ?_) <;> rw [d] <;> cbv
  ·rw [p0]; cbv
   rw [p0]; cbv
   rw [show allS e1 = true from F.scal he1 (fun _ => rfl)]; cbv
   rw [F.app_nil he1 (fun _ => rfl) hx]; cbv
   rw [show allS [[.int .i64 x.tag, .row () e1]] = false by rw [F.allS]; rfl]; cbv
   obtain ⟨eo', heo'⟩ := nm (row fExt (sel (tagIn b) idE pre ++ [idE x]))
   rw [show app 2 eo [[.int .i64 x.tag, .row () e1]] = some eo' by rw [heo', he1]; exact F.push hb (fun _ => rfl) rfl (by omega)]; cbv
   refine ih (suf, pre ++ [x], eo', add .i64 i 1) ⟨hi', hl2, by simp only; rw [heo', sel_t (by rw [← hv, d])]⟩ (by simp)
  ·refine ih (suf, pre ++ [x], eo, add .i64 i 1) ⟨hi', hl2, by simp only; rw [hb, sel_f (by rw [← hv, d])]⟩ (by simp)
theorem copy_id (l : List Ext) : sel (tagIn (sel yesE Ext.tag l)) idE l = l := by
 rw [sel_idE, List.filter_eq_self]
 intro a ha
 unfold tagIn hasI sel
 rw [List.any_eq_true]
 exact ⟨a.tag, List.mem_map.2 ⟨a, by simp [yesE, ha], rfl⟩, by simp⟩
theorem ok295 (l : List Ext) (hl : l.length ≤ 1073741824) (w : ∀ y ∈ l, y.body.length ≤ 1099511627776) {f0 : Fl} (h0 : inFl f0 = true) : fix Tb md 295 [R (row fExt l) f0] = some ⟨[R (row fExt l) (.ow false)], [], none⟩ := by
 obtain ⟨ea, hea⟩ := nm (row fExt l)
 rw [← hea]
 generalize hr : (⟨_, [], none⟩ : Ret) = r
 obtain ⟨et, het⟩ := nm (row fI (sel yesE Ext.tag l))
 have hlen : (sel yesE Ext.tag l).length ≤ l.length := sel_len
 refine fix_fn2 (fn := ir295) tb_295 rfl rfl (by decide) rfl ?_; intro Q hQ; simp only [shutArgs, shutS, List.map_cons, List.map_nil, ir295, shut_in h0, List.head?_nil, reduceCtorEq, if_false, sExt, sHello, sAnswer, sEdit, sDeal, sBox, sDialed, sKnown]
 intro add sub mul arith eq ne lt le gt ge neg conv mn mx not beq len at' ln bd cut app allS isNil mks set o hP F ho
 have c1 : o 280 [R ea (.sp 0 0)] = some ⟨[R et (.ow false)], [], none⟩ := by rw [ho, het, hea]; exact ok280 _ hl rfl
 have c2 : o 307 [R ea (.sp 0 0), R et (.sp 1 0)] = some ⟨[R ea (.ow false)], [], none⟩ := by
  rw [ho, het, hea]
  have h := ok307 l (sel yesE Ext.tag l) hl (by omega) w (f0 := .sp 0 0) (f1 := .sp 1 0) rfl rfl
  rw [copy_id] at h
  exact h
 cbv
 rw [c1]; cbv
 rw [c2]; cbv
 rw [hQ]; cbv
 exact congrArg some hr
theorem ok279 (h : Hello) (mh : h.Mid) {f0 f1 : Fl} (q0 : inFl f0 = true) (q1 : inFl f1 = true) : fix Tb md 279 [sHello (row fI h.versions) (row fExt h.exts) f0 f1] = some ⟨[sHello (row fI h.versions) (row fExt h.exts) (.ow false) (.ow false)], [], none⟩ := by
 have mh' := mh
 unfold Hello.Mid at mh'
 obtain ⟨ev, hev⟩ := nm (row fI h.versions)
 obtain ⟨ex, hex⟩ := nm (row fExt h.exts)
 rw [← hev, ← hex]
 generalize hr : (⟨_, [], none⟩ : Ret) = r
 refine fix_fn2 (fn := ir279) tb_279 rfl rfl (by decide) rfl ?_; intro Q hQ; simp only [shutArgs, shutS, List.map_cons, List.map_nil, ir279, shut_in q0, shut_in q1, List.head?_nil, reduceCtorEq, if_false, sExt, sHello, sAnswer, sEdit, sDeal, sBox, sDialed, sKnown]
 intro add sub mul arith eq ne lt le gt ge neg conv mn mx not beq len at' ln bd cut app allS isNil mks set o hP F ho
 have c1 : o 295 [R ex (.sp 0 0)] = some ⟨[R ex (.ow false)], [], none⟩ := by rw [ho, hex]; exact ok295 _ mh'.2.1 (fun y hy => Nat.le_trans (show y.body.length ≤ 1073741824 from mh'.2.2 y hy) (by decide)) rfl
 cbv
 rw [show allS ev = true from F.scal hev (fun _ => rfl)]; cbv
 rw [F.app_nil hev (fun _ => rfl) (Nat.le_trans mh'.1 (by decide))]; cbv
 rw [c1]; cbv
 rw [hQ]; cbv
 exact congrArg some hr
theorem ok323 (l : List Int) (n : Int) (hl : l.length ≤ 1073741824) {f0 : Fl} (q0 : inFl f0 = true) : fix Tb md 323 [R (row fI l) f0, I n] = some ⟨[R (row fI (dvV l n)) (.ow false), B (dvOk l n)], [], none⟩ := by
 obtain ⟨u, hu⟩ := nm (areVer l)
 obtain ⟨v, hv⟩ := nm (hasI l n)
 obtain ⟨w, hw⟩ := nm (decide (l.length = 1))
 obtain ⟨W, hW⟩ := nm (dvOk l n)
 obtain ⟨et, het⟩ := nm (row fI (dvV l n))
 rw [← hW, ← het]
 have hW' : W = (u && v && !w) := by rw [hW, hu, hv, hw]; rfl
 have hT1 : W = true → et = row fI (sel (neI n) idI l) := fun h => by rw [het, dvV, ← hW, h]; rfl
 have hT2 : W = false → et = row fI l := fun h => by rw [het, dvV, ← hW, h]; rfl
 clear hW het
 generalize hr : (⟨_, [], none⟩ : Ret) = r
 obtain ⟨ea, hea⟩ := nm (row fI l)
 rw [← hea]
 rw [← hea] at hT2
 obtain ⟨es, hes⟩ := nm (row fI (sel (neI n) idI l))
 rw [← hes] at hT1
 refine fix_fn2 (fn := ir323) tb_323 rfl rfl (by decide) rfl ?_; intro Q hQ; simp only [shutArgs, shutS, List.map_cons, List.map_nil, ir323, shut_in q0, List.head?_nil, reduceCtorEq, if_false, sExt, sHello, sAnswer, sEdit, sDeal, sBox, sDialed, sKnown]
 intro add sub mul arith eq ne lt le gt ge neg conv mn mx not beq len at' ln bd cut app allS isNil mks set o hP F ho
 have la := F.len_at hea
 have c1 : o 257 [R ea (.sp 0 0)] = some ⟨[B u], [], none⟩ := by rw [ho, hu, hea]; exact ok257 _ (by omega) rfl
 have c2 : o 285 [R ea (.sp 0 0), I n] = some ⟨[B v], [], none⟩ := by rw [ho, hv, hea]; exact ok285 _ _ (by omega) rfl
 have c3 : o 362 [R ea (.sp 0 0), I n] = some ⟨[R es (.ow false)], [], none⟩ := by rw [ho, hes, hea]; exact ok362 _ _ hl rfl
 have g1 : eq (len ea) 1 = w := by rw [F.eq_n la (k := 1) (m := 1) rfl, hw]
 have g2 : allS ea = true := F.scal hea (fun _ => rfl)
 have g3 : app 1 [] ea = some ea := F.app_nil hea (fun _ => rfl) (by omega)
 cbv
 rw [c1]; cbv
 refine both (fun d1 => ?_) (fun d1 => ?_) <;> rw [d1] <;> cbv
 ·rw [g2]; cbv
  rw [g3]; cbv
  rw [hQ]; cbv
  rw [F.not_t d1] at hW'
  rw [← hr, hW', hT2 hW']; rfl
 rw [c2]; cbv
 refine both (fun d2 => ?_) (fun d2 => ?_) <;> rw [d2] <;> cbv
 ·rw [g2]; cbv
  rw [g3]; cbv
  rw [hQ]; cbv
  rw [F.not_f d1, F.not_t d2] at hW'
  rw [← hr, hW', hT2 hW']; rfl
 rw [g1]; cbv
 refine both (fun d3 => ?_) (fun d3 => ?_) <;> rw [d3] <;> cbv
 ·rw [g2]; cbv
  rw [g3]; cbv
  rw [hQ]; cbv
  rw [F.not_f d1, F.not_f d2, d3] at hW'
  rw [← hr, hW', hT2 hW']; rfl
 rw [c3]; cbv
 rw [hQ]; cbv
 rw [F.not_f d1, F.not_f d2, d3] at hW'
 rw [← hr, hW', hT1 hW']; rfl
theorem ok345 (l : List Int) (n : Int) (hl : l.length ≤ 1073741824) {f0 : Fl} (q0 : inFl f0 = true) : fix Tb md 345 [R (row fI l) f0, I n] = some ⟨[R (row fI (l4V l n)) (.ow false)], [], none⟩ := by
 obtain ⟨T, hT⟩ := nm (l4V l n)
 rw [← hT]
 obtain ⟨et, het⟩ := nm (row fI T)
 rw [← het]
 generalize hr : (⟨_, [], none⟩ : Ret) = r
 obtain ⟨ea, hea⟩ := nm (row fI l)
 rw [← hea]
 refine fix_fn2 (fn := ir345) tb_345 rfl rfl (by decide) rfl ?_; intro Q hQ; simp only [shutArgs, shutS, List.map_cons, List.map_nil, ir345, shut_in q0, List.head?_nil, reduceCtorEq, if_false, sExt, sHello, sAnswer, sEdit, sDeal, sBox, sDialed, sKnown]
 intro add sub mul arith eq ne lt le gt ge neg conv mn mx not beq len at' ln bd cut app allS isNil mks set o hP F ho
 have la := F.len_at hea
 have p9 : allS [[.int .i64 n]] = true := by rw [F.allS]; rfl
 cbv
 refine loop_ind2 hP (σ := List Int × List Int × Int) (fun s => [(0, R ea .sh), (1, I n), (4, R [] .nl), (5, I s.2.2)]) (fun s => At s.2.2 s.2.1.length ∧ l = s.2.1 ++ s.1 ∧ l4Go n s.2.1 s.1 = T) (fun s => s.1.length) (l, [], 0) rfl ⟨rfl, rfl, hT.symm⟩ ?_
 intro c9 Q1 hc9 hQ1
 rintro ⟨suf, pre, i⟩ ⟨hi, hl', hb⟩ ih
 simp only at hi hl' hb ih
 have hpl : pre.length ≤ 1073741824 := by rw [hl'] at hl; simp at hl; omega
 obtain ⟨m, hm⟩ := nm (pre.length)
 obtain ⟨e1, he1⟩ := nm (row fI pre)
 obtain ⟨e2, he2⟩ := nm (row fI suf)
 obtain ⟨e3, he3⟩ := nm (row fI (pre ++ [n]))
 obtain ⟨e4, he4⟩ := nm (row fI (pre ++ [n] ++ suf))
 have b1 : bd (ln ea) i = some m := by rw [F.ln' hea, hm]; exact F.bd' hi (by rw [hl']; simp)
 have b2 : cut 1 ea m 0 = some e1 := by rw [F.cut' hea (fun _ => rfl), he1, hl', hm]; simp
 have b3 : cut 1 ea (ln ea) m = some e2 := by rw [F.cut' hea (fun _ => rfl), F.ln' hea, he2, hl', hm, List.take_length]; simp
 have p1 : allS e1 = true := F.scal he1 (fun _ => rfl)
 have p2 : app 1 [] e1 = some e1 := F.app_nil he1 (fun _ => rfl) (by omega)
 have p3 : app 1 e1 [[.int .i64 n]] = some e3 := by rw [he3]; exact F.push he1 (fun _ => rfl) rfl (by omega)
 have p4 : allS e2 = true := F.scal he2 (fun _ => rfl)
 have p5 : app 1 e3 e2 = some e4 := by rw [he4]; exact F.app' he3 he2 (fun _ => rfl) (by rw [hl'] at hl; simp at hl ⊢; omega)
 cbv
 cases suf with
 | nil =>
  rw [F.lt_f hi la (by simp [hl'])]; cbv
  rw [hQ1]; cbv
  rw [F.lt_f hi la (by simp [hl'])]; cbv
  rw [b1]; cbv
  rw [b2]; cbv
  rw [p1]; cbv
  rw [p2]; cbv
  rw [p9]; cbv
  rw [p3]; cbv
  rw [b1]; cbv
  rw [b3]; cbv
  rw [p4]; cbv
  rw [p5]; cbv
  rw [hQ]; cbv
  rw [← hr, het, ← hb, he4]; unfold l4Go; simp
 | cons x suf =>
  obtain ⟨ix, hix⟩ := nm (pre.length * 1)
  have p0 : at' 1 ea i = some (ix, [.int .i64 x]) := by rw [hix]; exact F.get hi hea hl' (fun _ => rfl) (by decide)
  have g1 : lt x n = decide (x < n) := F.lt ..
  have g2 : eq x n = decide (x = n) := F.eq ..
  unfold l4Go at hb
  rw [F.lt_t hi la (by simp [hl'])]; cbv
  rw [p0]; cbv
  refine both (fun d1 => ?_) (fun d1 => ?_) <;> rw [d1] <;> cbv
  ·rw [g1, decide_eq_true_eq] at d1
   rw [if_pos d1] at hb
   refine ih (suf, pre ++ [x], add .i64 i 1) ⟨at_len (F.inc hi (by omega)) (by simp), by rw [hl']; simp, hb⟩ (by simp)
  rw [hQ1]; cbv
  rw [g1, decide_eq_false_iff_not] at d1
  rw [if_neg d1] at hb
  rw [F.lt_t hi la (by simp [hl'])]; cbv
  rw [p0]; cbv
  refine both (fun d2 => ?_) (fun d2 => ?_) <;> rw [d2] <;> cbv
  ·rw [g2, decide_eq_true_eq] at d2
   rw [if_pos d2] at hb
   rw [show allS ea = true from F.scal hea (fun _ => rfl)]; cbv
   rw [F.app_nil hea (fun _ => rfl) (by omega)]; cbv
   rw [hQ]; cbv
   rw [← hr, het, ← hb, hea, hl']
  ·rw [g2, decide_eq_false_iff_not] at d2
   rw [if_neg d2] at hb
   rw [b1]; cbv
   rw [b2]; cbv
   rw [p1]; cbv
   rw [p2]; cbv
   rw [p9]; cbv
   rw [p3]; cbv
   rw [b1]; cbv
   rw [b3]; cbv
   rw [p4]; cbv
   rw [p5]; cbv
   rw [hQ]; cbv
   rw [← hr, het, ← hb, he4]; simp
theorem ok324 (l : List Int) (n : Int) (hl : l.length ≤ 1073741824) {f0 : Fl} (q0 : inFl f0 = true) : fix Tb md 324 [R (row fI l) f0, I n] = some ⟨[R (row fI (avV l n)) (.ow false), B (avOk l n)], [], none⟩ := by
 obtain ⟨u, hu⟩ := nm (areVer l)
 obtain ⟨v, hv⟩ := nm (inR n 1 9)
 obtain ⟨w, hw⟩ := nm (hasI l n)
 obtain ⟨W, hW⟩ := nm (avOk l n)
 obtain ⟨et, het⟩ := nm (row fI (avV l n))
 rw [← hW, ← het]
 have hW' : W = (u && v && !w) := by rw [hW, hu, hv, hw]; rfl
 have hT1 : W = true → et = row fI (l4V l n) := fun h => by rw [het, avV, ← hW, h]; rfl
 have hT2 : W = false → et = row fI l := fun h => by rw [het, avV, ← hW, h]; rfl
 clear hW het
 generalize hr : (⟨_, [], none⟩ : Ret) = r
 obtain ⟨ea, hea⟩ := nm (row fI l)
 rw [← hea]
 rw [← hea] at hT2
 obtain ⟨es, hes⟩ := nm (row fI (l4V l n))
 rw [← hes] at hT1
 refine fix_fn2 (fn := ir324) tb_324 rfl rfl (by decide) rfl ?_; intro Q hQ; simp only [shutArgs, shutS, List.map_cons, List.map_nil, ir324, shut_in q0, List.head?_nil, reduceCtorEq, if_false, sExt, sHello, sAnswer, sEdit, sDeal, sBox, sDialed, sKnown]
 intro add sub mul arith eq ne lt le gt ge neg conv mn mx not beq len at' ln bd cut app allS isNil mks set o hP F ho
 have c1 : o 257 [R ea (.sp 0 0)] = some ⟨[B u], [], none⟩ := by rw [ho, hu, hea]; exact ok257 _ (by omega) rfl
 have c2 : o 230 [I n, I 1, I 9] = some ⟨[B v], [], none⟩ := by rw [ho, hv]; exact ok230 ..
 have c3 : o 285 [R ea (.sp 0 0), I n] = some ⟨[B w], [], none⟩ := by rw [ho, hw, hea]; exact ok285 _ _ (by omega) rfl
 have g2 : allS ea = true := F.scal hea (fun _ => rfl)
 have g3 : app 1 [] ea = some ea := F.app_nil hea (fun _ => rfl) (by omega)
 cbv
 rw [c1]; cbv
 refine both (fun d1 => ?_) (fun d1 => ?_) <;> rw [d1] <;> cbv
 ·rw [g2]; cbv
  rw [g3]; cbv
  rw [hQ]; cbv
  rw [F.not_t d1] at hW'
  rw [← hr, hW', hT2 hW']; rfl
 rw [c2]; cbv
 refine both (fun d2 => ?_) (fun d2 => ?_) <;> rw [d2] <;> cbv
 ·rw [g2]; cbv
  rw [g3]; cbv
  rw [hQ]; cbv
  rw [F.not_f d1, F.not_t d2] at hW'
  rw [← hr, hW', hT2 hW']; rfl
 rw [c3]; cbv
 refine both (fun d3 => ?_) (fun d3 => ?_) <;> rw [d3] <;> cbv
 ·rw [g2]; cbv
  rw [g3]; cbv
  rw [hQ]; cbv
  rw [F.not_f d1, F.not_f d2, d3] at hW'
  rw [← hr, hW', hT2 hW']; rfl
 rw [F.not_f d1, F.not_f d2, d3] at hW'
 have c4 : o 345 [R ea (.sp 0 0), I n] = some ⟨[R es (.ow false)], [], none⟩ := by rw [ho, hes, hea]; exact ok345 _ _ hl rfl
 rw [c4]; cbv
 rw [hQ]; cbv
 rw [← hr, hW', hT1 hW']; rfl
theorem ok209 (h : Hello) (e : Edit) (q : hB h 1073741823 1073741823) {f0 f1 : Fl} (q0 : inFl f0 = true) (q1 : inFl f1 = true) : fix Tb md 209 [sHello (row fI h.versions) (row fExt h.exts) f0 f1, sEdit e.kind e.n] = some ⟨[sHello (row fI (editH h e).versions) (row fExt (editH h e).exts) (.ow false) (.ow false)], [], none⟩ := by
 obtain ⟨hvl, hxl, wm⟩ := q
 have mh : h.Mid := ⟨by omega, by omega, wm⟩
 have wh : ∀ y ∈ h.exts, y.body.length ≤ 1099511627776 := fun y hy => Nat.le_trans (wm y hy) (by decide)
 have wx : ∀ y ∈ ehX h e.n, y.body.length ≤ 1099511627776 := fun y hy => by
  simp only [ehX] at hy
  rcases List.mem_append.1 hy with hy | hy
  ·exact wh y hy
  ·simp at hy; subst hy; simp
 obtain ⟨k, hk⟩ := nm e.kind
 obtain ⟨n, hn⟩ := nm e.n
 obtain ⟨z, hz⟩ := nm (editH h e)
 obtain ⟨u, hu⟩ := nm (areEx (ehX h n))
 have hv : z = if k = 1 then ⟨dvV h.versions n, h.exts⟩ else if k = 2 then ⟨avV h.versions n, h.exts⟩ else if k = 3 then ⟨h.versions, sel (notTag n) idE h.exts⟩ else if k = 6 then (if u = true then ⟨h.versions, ehX h n⟩ else h) else h := by rw [hz, hk, hu, hn]; rfl
 rw [← hk, ← hn, ← hz]
 rw [← hn] at wx
 clear hz hk hn
 have hc : k = 1 ∨ k = 2 ∨ k = 3 ∨ k = 6 ∨ (k ≠ 1 ∧ k ≠ 2 ∧ k ≠ 3 ∧ k ≠ 6) := by omega
 have k1 := ok279 h mh (f0 := .sp 0 0) (f1 := .sp 0 1) rfl rfl
 have k2 := ok323 h.versions n (by omega) (f0 := .sp 0 0) rfl
 have k3 := ok324 h.versions n (by omega) (f0 := .sp 0 0) rfl
 have k4 := ok295 h.exts (by omega) wh (f0 := .sp 0 0) rfl
 have k5 := ok271 (ehX h n) (by simp [ehX]; omega) wx (f0 := .sp 0 0) rfl
 have k6 := ok296 h.exts n (by omega) wh (f0 := .sp 0 0) rfl
 rw [← hu] at k5
 obtain ⟨w1, hw1⟩ := nm (dvOk h.versions n)
 obtain ⟨w2, hw2⟩ := nm (avOk h.versions n)
 rw [← hw1] at k2
 rw [← hw2] at k3
 clear hw1 hw2
 obtain ⟨dv, hdv⟩ := nm (row fI h.versions)
 obtain ⟨dx, hdx⟩ := nm (row fExt h.exts)
 obtain ⟨ed, hed⟩ := nm (row fI (dvV h.versions n))
 obtain ⟨ea, hea⟩ := nm (row fI (avV h.versions n))
 obtain ⟨es, hes⟩ := nm (row fExt (sel (notTag n) idE h.exts))
 obtain ⟨ex, hex⟩ := nm (row fExt (ehX h n))
 rw [← hdv, ← hdx] at k1 ⊢
 rw [← hdv, ← hed] at k2
 rw [← hdv, ← hea] at k3
 rw [← hdx] at k4
 rw [← hdx, ← hes] at k6
 rw [← hex] at k5
 rcases hc with rfl | rfl | rfl | rfl | ⟨n1, n2, n3, n6⟩
 ·have hv' : z = ⟨dvV h.versions n, h.exts⟩ := by rw [hv, if_pos rfl]
  rw [hv']
  simp only
  rw [← hed, ← hdx]
  generalize hr : (⟨_, [], none⟩ : Ret) = r
  refine fix_fn2 (fn := ir209) tb_209 rfl rfl (by decide) rfl ?_; intro Q hQ; simp only [shutArgs, shutS, List.map_cons, List.map_nil, ir209, shut_in q0, shut_in q1, List.head?_nil, reduceCtorEq, if_false, sExt, sHello, sAnswer, sEdit, sDeal, sBox, sDialed, sKnown]
  intro add sub mul arith eq ne lt le gt ge neg conv mn mx not beq len at' ln bd cut app allS isNil mks set o hP F ho
  rw [← ho] at k1 k2
  cbv
  rw [k1]; cbv
  rw [F.eq_t rfl]; cbv
  rw [k2]; cbv
  rw [hQ]; cbv
  exact congrArg some hr
 ·have hv' : z = ⟨avV h.versions n, h.exts⟩ := by rw [hv, if_neg (by decide), if_pos rfl]
  rw [hv']
  simp only
  rw [← hea, ← hdx]
  generalize hr : (⟨_, [], none⟩ : Ret) = r
  refine fix_fn2 (fn := ir209) tb_209 rfl rfl (by decide) rfl ?_; intro Q hQ; simp only [shutArgs, shutS, List.map_cons, List.map_nil, ir209, shut_in q0, shut_in q1, List.head?_nil, reduceCtorEq, if_false, sExt, sHello, sAnswer, sEdit, sDeal, sBox, sDialed, sKnown]
  intro add sub mul arith eq ne lt le gt ge neg conv mn mx not beq len at' ln bd cut app allS isNil mks set o hP F ho
  rw [← ho] at k1 k3
  cbv
  rw [k1]; cbv
  rw [F.eq_f (i := 2) (j := 1) (by decide)]; cbv
  rw [F.eq_t rfl]; cbv
  rw [k3]; cbv
  rw [hQ]; cbv
  exact congrArg some hr
 ·have hv' : z = ⟨h.versions, sel (notTag n) idE h.exts⟩ := by rw [hv, if_neg (by decide), if_neg (by decide), if_pos rfl]
  rw [hv']
  simp only
  rw [← hdv, ← hes]
  generalize hr : (⟨_, [], none⟩ : Ret) = r
  refine fix_fn2 (fn := ir209) tb_209 rfl rfl (by decide) rfl ?_; intro Q hQ; simp only [shutArgs, shutS, List.map_cons, List.map_nil, ir209, shut_in q0, shut_in q1, List.head?_nil, reduceCtorEq, if_false, sExt, sHello, sAnswer, sEdit, sDeal, sBox, sDialed, sKnown]
  intro add sub mul arith eq ne lt le gt ge neg conv mn mx not beq len at' ln bd cut app allS isNil mks set o hP F ho
  rw [← ho] at k1 k6
  cbv
  rw [k1]; cbv
  rw [F.eq_f (i := 3) (j := 1) (by decide)]; cbv
  rw [F.eq_f (i := 3) (j := 2) (by decide)]; cbv
  rw [F.eq_t rfl]; cbv
  rw [k6]; cbv
  rw [hQ]; cbv
  exact congrArg some hr
 ·have hv' : z = if u = true then ⟨h.versions, ehX h n⟩ else h := by rw [hv, if_neg (by decide), if_neg (by decide), if_neg (by decide), if_pos rfl]
  have hb : u = true ∨ u = false := by cases u <;> simp
  rcases hb with rfl | rfl
  all_goals
   simp only [if_true, Bool.false_eq_true, if_false] at hv'
   rw [hv']
   try simp only
   rw [← hdv]
   first | rw [← hex] | rw [← hdx]
   generalize hr : (⟨_, [], none⟩ : Ret) = r
   refine fix_fn2 (fn := ir209) tb_209 rfl rfl (by decide) rfl ?_; intro Q hQ; simp only [shutArgs, shutS, List.map_cons, List.map_nil, ir209, shut_in q0, shut_in q1, List.head?_nil, reduceCtorEq, if_false, sExt, sHello, sAnswer, sEdit, sDeal, sBox, sDialed, sKnown]
   intro add sub mul arith eq ne lt le gt ge neg conv mn mx not beq len at' ln bd cut app allS isNil mks set o hP F ho
   have p1 : app 2 dx [[.int .i64 n, .row () []]] = some ex := by rw [hex]; exact F.push (f := fExt) (x := ⟨n, []⟩) hdx (fun _ => rfl) rfl (by omega)
   have p2 : allS [[.int .i64 n, .row () []]] = false := by rw [F.allS]; rfl
   rw [← ho] at k1 k4 k5
   cbv
   rw [k1]; cbv
   rw [F.eq_f (i := 6) (j := 1) (by decide)]; cbv
   rw [F.eq_f (i := 6) (j := 2) (by decide)]; cbv
   rw [F.eq_f (i := 6) (j := 3) (by decide)]; cbv
   rw [F.eq_t rfl]; cbv
   rw [k4]; cbv
   rw [p2]; cbv
   rw [p1]; cbv
   rw [k5]; cbv
   rw [hQ]; cbv
   exact congrArg some hr
 ·have hv' : z = h := by rw [hv, if_neg n1, if_neg n2, if_neg n3, if_neg n6]
  rw [hv', ← hdv, ← hdx]
  generalize hr : (⟨_, [], none⟩ : Ret) = r
  refine fix_fn2 (fn := ir209) tb_209 rfl rfl (by decide) rfl ?_; intro Q hQ; simp only [shutArgs, shutS, List.map_cons, List.map_nil, ir209, shut_in q0, shut_in q1, List.head?_nil, reduceCtorEq, if_false, sExt, sHello, sAnswer, sEdit, sDeal, sBox, sDialed, sKnown]
  intro add sub mul arith eq ne lt le gt ge neg conv mn mx not beq len at' ln bd cut app allS isNil mks set o hP F ho
  rw [← ho] at k1
  cbv
  rw [k1]; cbv
  rw [F.eq_f n1]; cbv
  rw [F.eq_f n2]; cbv
  rw [F.eq_f n3]; cbv
  rw [F.eq_f n6]; cbv
  rw [hQ]; cbv
  exact congrArg some hr
theorem ok79 (a b : List Int) (hl : a.length ≤ 1099511627776) {f0 f1 : Fl} (h0 : inFl f0 = true) (h1 : inFl f1 = true) : fix Tb md 79 [R (row fI a) f0, R (row fI b) f1] = some ⟨[B (decide (a = b))], [], none⟩ := by
 refine fix_fn (fn := ir79) tb_79 rfl rfl (by decide) rfl ?_; simp only [shutArgs, shutS, List.map_cons, List.map_nil, ir79, shut_in h0, shut_in h1, List.head?_nil, reduceCtorEq, if_false, sExt, sHello, sAnswer, sEdit, sDeal, sBox, sDialed, sKnown]
 generalize hr : (⟨_, [], none⟩ : Ret) = r
 obtain ⟨ea, hea⟩ := nm (row fI a)
 obtain ⟨eb, heb⟩ := nm (row fI b)
 rw [← hea, ← heb]
 intro add sub mul arith eq ne lt le gt ge neg conv mn mx not beq len at' ln bd cut app allS isNil mks set o hP F ho
 have la := F.len_at hea
 have lb := F.len_at heb
 cbv
 by_cases hab : a.length = b.length
 ·rw [F.ne_f (by unfold At at la lb; omega)]; cbv
  refine loop_ind hP (σ := List Int × List Int × List Int × Int) (fun s => [(0, R ea .sh), (1, R eb .sh), (4, B false), (5, I s.2.2.2)]) (fun s => At s.2.2.2 s.1.length ∧ a = s.1 ++ s.2.1 ∧ b = s.1 ++ s.2.2.1) (fun s => s.2.1.length) ([], a, b, 0) rfl ⟨rfl, rfl, rfl⟩ ?_
  rintro ⟨pre, sa, sb, i⟩ ⟨hi, ha, hb⟩ ih
  simp only at hi ha hb ih
  cbv
  have hlen : sa.length = sb.length := by simp [ha, hb] at hab; exact hab
  match sa, sb, hlen, ha, hb with
  | [], [], _, ha, hb =>
   rw [F.lt_f hi la (by simp [ha])]; cbv
   rw [← hr]; simp [ha, hb]
  | x :: sa, y :: sb, _, ha, hb =>
   rw [F.lt_t hi la (by simp [ha])]; cbv
   obtain ⟨ix, hix⟩ := nm (pre.length * 1)
   rw [show at' 1 ea i = some (ix, [.int .i64 x]) by rw [hix]; exact F.get hi hea ha (fun _ => rfl) (by decide)]; cbv
   rw [show at' 1 eb i = some (ix, [.int .i64 y]) by rw [hix]; exact F.get hi heb hb (fun _ => rfl) (by decide)]; cbv
   by_cases hxy : x = y
   ·rw [F.ne_f hxy]; cbv
    refine ih (pre ++ [x], sa, sb, add .i64 i 1) ⟨at_len (F.inc hi (by simp [ha] at hl; omega)) (by simp), by simp [ha], by simp [hb, hxy]⟩ (by simp)
   ·rw [F.ne_t hxy]; cbv
    rw [← hr]; simp [ha, hb, hxy]
 ·rw [F.ne_t (by unfold At at la lb; omega)]; cbv
  rw [← hr]
  simp
  intro e; exact hab (by rw [e])
theorem ok79t (a : List Int) (hl : a.length ≤ 1099511627776) {f0 f1 : Fl} (h0 : inFl f0 = true) (h1 : inFl f1 = true) : fix Tb md 79 [R (row fI a) f0, R (row fI a) f1] = some ⟨[B true], [], none⟩ := by simpa using ok79 a a hl h0 h1
theorem ok321 (x : Ext) (w : x.Mid) {f0 : Fl} (q0 : inFl f0 = true) {g0 : Fl} (p0 : inFl g0 = true) :
  fix Tb md 321 [sExt x.tag (row fI x.body) f0, sExt x.tag (row fI x.body) g0] = some ⟨[B true], [], none⟩ := by
 refine fix_fn (fn := ir321) tb_321 rfl rfl (by decide) rfl ?_; simp only [shutArgs, shutS, List.map_cons, List.map_nil, ir321, shut_in q0, shut_in p0, List.head?_nil, reduceCtorEq, if_false, sExt, sHello, sAnswer, sEdit, sDeal, sBox, sDialed, sKnown]
 generalize hr : (⟨_, [], none⟩ : Ret) = r
 obtain ⟨e1, he1⟩ := nm (row fI x.body)
 rw [← he1]
 unfold Ext.Mid at w
 intro add sub mul arith eq ne lt le gt ge neg conv mn mx not beq len at' ln bd cut app allS isNil mks set o hP F ho
 have c1 : o 79 [R e1 (.sp 0 0), R e1 (.sp 1 0)] = some ⟨[B true], [], none⟩ := by rw [ho, he1]; exact ok79t _ (by have := w; omega) rfl rfl
 cbv
 rw [F.ne_f rfl]; cbv
 rw [c1]; cbv
 rw [show not true = false by rw [F.not]; rfl]; cbv
 exact congrArg some hr
theorem ok200 (l : List (Ext)) (w : l.length ≤ 1073741824 ∧ ∀ y ∈ l, y.Mid) {f0 f1 : Fl} (q0 : inFl f0 = true) (q1 : inFl f1 = true) :
  fix Tb md 200 [R (row fExt l) f0, R (row fExt l) f1] = some ⟨[B true], [], none⟩ := by
 have w1 := w.1
 refine fix_fn (fn := ir200) tb_200 rfl rfl (by decide) rfl ?_; simp only [shutArgs, shutS, List.map_cons, List.map_nil, ir200, shut_in q0, shut_in q1, List.head?_nil, reduceCtorEq, if_false, sExt, sHello, sAnswer, sEdit, sDeal, sBox, sDialed, sKnown]
 generalize hr : (⟨_, [], none⟩ : Ret) = r
 obtain ⟨ea, hea⟩ := nm (row fExt l)
 rw [← hea]
 intro add sub mul arith eq ne lt le gt ge neg conv mn mx not beq len at' ln bd cut app allS isNil mks set o hP F ho
 have la := F.len_at hea
 cbv
 rw [F.ne_f rfl]; cbv
 refine loop_ind hP (σ := List (Ext) × List (Ext) × Int) (fun s => [(0, R ea .sh), (1, R ea .sh), (4, B false), (5, I s.2.2)])
  (fun s => At s.2.2 s.2.1.length ∧ l = s.2.1 ++ s.1) (fun s => s.1.length) (l, [], 0) rfl ⟨rfl, rfl⟩ ?_
 rintro ⟨suf, pre, i⟩ ⟨hi, hl'⟩ ih
 simp only at hi hl' ih
 cbv
 cases suf with
 | nil =>
  rw [F.lt_f hi la (by simp [hl'])]; cbv
  exact congrArg some hr
 | cons x suf =>
  rw [F.lt_t hi la (by simp [hl'])]; cbv
  obtain ⟨e1, he1⟩ := nm (row fI x.body)
  obtain ⟨ix, hix⟩ := nm (pre.length * 2)
  have a1 : at' 2 ea i = some (ix, [.int .i64 x.tag, .row () e1]) := by rw [hix, he1]; exact F.get hi hea hl' (fun _ => rfl) (by decide)
  rw [a1]; cbv
  try (rw [a1]; cbv)
  have c1 : o 321 [sExt x.tag e1 (.sp 0 1), sExt x.tag e1 (.sp 1 1)] = some ⟨[B true], [], none⟩ := by rw [ho, he1]; exact ok321 x (w.2 x (by rw [hl']; simp)) rfl rfl
  rw [c1]; cbv
  rw [show not true = false by rw [F.not]; rfl]; cbv
  refine ih (suf, pre ++ [x], add .i64 i 1) ⟨at_len (F.inc hi (by simp [hl'] at w1; omega)) (by simp), by simp [hl']⟩ (by simp)
theorem ok78 (x : Hello) (w : x.Mid) {f0 f1 : Fl} (q0 : inFl f0 = true) (q1 : inFl f1 = true) {g0 g1 : Fl} (p0 : inFl g0 = true) (p1 : inFl g1 = true) :
  fix Tb md 78 [sHello (row fI x.versions) (row fExt x.exts) f0 f1, sHello (row fI x.versions) (row fExt x.exts) g0 g1] = some ⟨[B true], [], none⟩ := by
 refine fix_fn (fn := ir78) tb_78 rfl rfl (by decide) rfl ?_; simp only [shutArgs, shutS, List.map_cons, List.map_nil, ir78, shut_in q0, shut_in q1, shut_in p0, shut_in p1, List.head?_nil, reduceCtorEq, if_false, sExt, sHello, sAnswer, sEdit, sDeal, sBox, sDialed, sKnown]
 generalize hr : (⟨_, [], none⟩ : Ret) = r
 obtain ⟨e1, he1⟩ := nm (row fI x.versions)
 obtain ⟨e2, he2⟩ := nm (row fExt x.exts)
 rw [← he1, ← he2]
 unfold Hello.Mid at w
 intro add sub mul arith eq ne lt le gt ge neg conv mn mx not beq len at' ln bd cut app allS isNil mks set o hP F ho
 have c1 : o 79 [R e1 (.sp 0 0), R e1 (.sp 1 0)] = some ⟨[B true], [], none⟩ := by rw [ho, he1]; exact ok79t _ (by have := w.1; omega) rfl rfl
 have c2 : o 200 [R e2 (.sp 0 0), R e2 (.sp 1 0)] = some ⟨[B true], [], none⟩ := by rw [ho, he2]; exact ok200 _ w.2 rfl rfl
 cbv
 rw [c1]; cbv
 rw [show not true = false by rw [F.not]; rfl]; cbv
 rw [c2]; cbv
 rw [show not true = false by rw [F.not]; rfl]; cbv
 exact congrArg some hr
theorem ok125 (l : List Int) (k : Int) (hk : Lim k l.length) (hl : l.length ≤ 1099511627776) {f0 : Fl} (h0 : inFl f0 = true) : fix Tb md 125 [R (row fI (mI l k)) f0, I k] = some ⟨[I (k + (l.length : Int))], [], none⟩ := by
 obtain ⟨t, ht⟩ := nm (k + (l.length : Int))
 have hT : AtK t k l.length := ht
 rw [← ht]
 clear ht
 refine fix_fn (fn := ir125) tb_125 rfl rfl (by decide) rfl ?_; simp only [shutArgs, shutS, List.map_cons, List.map_nil, ir125, shut_in h0, List.head?_nil, reduceCtorEq, if_false, sExt, sHello, sAnswer, sEdit, sDeal, sBox, sDialed, sKnown]
 generalize hr : (⟨_, [], none⟩ : Ret) = r
 obtain ⟨ea, hea⟩ := nm (row fI (mI l k))
 rw [← hea]
 intro add sub mul arith eq ne lt le gt ge neg conv mn mx not beq len at' ln bd cut app allS isNil mks set o hP F ho
 have la := F.len_at hea
 cbv
 refine loop_ind hP (σ := List Int × List Int × Int × Int) (fun s => [(0, R ea .sh), (1, I s.2.2.1), (4, I 0), (5, I s.2.2.2)])
  (fun s => At s.2.2.2 s.2.1.length ∧ AtK s.2.2.1 k s.2.1.length ∧ l = s.2.1 ++ s.1) (fun s => s.1.length) (l, [], k, 0) rfl ⟨rfl, AtK.zero, rfl⟩ ?_
 rintro ⟨suf, pre, x, i⟩ ⟨hi, hx, hl'⟩ ih
 simp only at hi hx hl' ih
 cbv
 cases suf with
 | nil =>
  rw [F.lt_f hi la (by rw [mI_len, hl']; simp)]; cbv
  rw [← hr, show x = t by rw [hx.same, hT.same, hl']; simp]
 | cons y suf =>
  have hl3 : pre.length + 1 ≤ l.length := by rw [hl']; simp
  have a1 : add .i64 x 1 = x + 1 := by rw [F.add, hx.inc hk (by omega)]
  have hm : mI l k = mI pre k ++ x :: mI suf (x + 1) := by rw [hl', mI_app pre _ k x hx]; rfl
  rw [F.lt_t hi la (by rw [mI_len, hl']; simp)]; cbv
  obtain ⟨ix, hix⟩ := nm (pre.length * 1)
  rw [show at' 1 ea i = some (ix, [.int .i64 x]) by rw [hix]; have h := F.get (f := fI) (k := 1) (show At i (mI pre k).length by rw [mI_len]; exact hi) hea hm (fun _ => rfl) (by decide); rw [mI_len] at h; exact h]; cbv
  rw [F.ne_f rfl]; cbv
  rw [a1]
  refine ih (suf, pre ++ [y], x + 1, add .i64 i 1) ⟨at_len (F.inc hi (by omega)) (by simp), hx.one.eq (by simp), by simp [hl']⟩ (by simp)
set_option maxHeartbeats 2000000 in
theorem ok236 (l : List Ext) (k : Int) (hk : Lim k (cExtS l)) (hl : l.length ≤ 1099511627776) (w0 : ∀ y ∈ l, y.body.length ≤ 1099511627776) {f0 : Fl} (h0 : inFl f0 = true) : fix Tb md 236 [R (row fExt (mExtS l k)) f0, I k] = some ⟨[I (k + (cExtS l : Int))], [], none⟩ := by
 obtain ⟨t, ht⟩ := nm (k + (cExtS l : Int))
 have hT : AtK t k (cExtS l) := ht
 rw [← ht]
 clear ht
 refine fix_fn (fn := ir236) tb_236 rfl rfl (by decide) rfl ?_; simp only [shutArgs, shutS, List.map_cons, List.map_nil, ir236, shut_in h0, List.head?_nil, reduceCtorEq, if_false, sExt, sHello, sAnswer, sEdit, sDeal, sBox, sDialed, sKnown]
 generalize hr : (⟨_, [], none⟩ : Ret) = r
 obtain ⟨ea, hea⟩ := nm (row fExt (mExtS l k))
 rw [← hea]
 intro add sub mul arith eq ne lt le gt ge neg conv mn mx not beq len at' ln bd cut app allS isNil mks set o hP F ho
 have la := F.len_at hea
 cbv
 refine loop_ind hP (σ := List Ext × List Ext × Int × Int) (fun s => [(0, R ea .sh), (1, I s.2.2.1), (4, I 0), (5, I s.2.2.2)])
  (fun s => At s.2.2.2 s.2.1.length ∧ AtK s.2.2.1 k (cExtS s.2.1) ∧ l = s.2.1 ++ s.1) (fun s => s.1.length) (l, [], k, 0) rfl ⟨rfl, AtK.zero, rfl⟩ ?_
 rintro ⟨suf, pre, z0, i⟩ ⟨hi, a0, hl'⟩ ih
 simp only at hi a0 hl' ih
 cbv
 cases suf with
 | nil =>
  rw [F.lt_f hi la (by rw [mExtS_len, hl']; simp)]; cbv
  rw [← hr, show z0 = t by rw [a0.same, hT.same, hl']; simp]
 | cons x suf =>
  have hl3 : pre.length + 1 ≤ l.length := by rw [hl']; simp
  have hc : cExtS l = cExtS pre + (cExt x + cExtS suf) := by rw [hl']; simp [cExtS]
  have hcx : cExt x = 1 + x.body.length := rfl
  obtain ⟨z1, hz1⟩ := nm (z0 + 1)
  have a1 : AtK z1 k (cExtS pre + 1) := hz1 ▸ a0.one
  have s1 : add .i64 z0 1 = z1 := by rw [F.add, a0.inc hk (by omega), hz1]
  obtain ⟨z2, hz2⟩ := nm (z1 + (x.body.length : Int))
  have a2 : AtK z2 k (cExtS pre + 1 + x.body.length) := hz2 ▸ a1.plus
  have m2 : Lim z1 x.body.length := a1.lim hk (by omega)
  have n2 : 0 ≤ z2 := by have := m2.nn; omega
  have hmx : mExt x z0 = (⟨z0, (mI x.body z1)⟩ : Ext) := by simp only [mExt, hz1, hz2]
  have hzn : z0 + (cExt x : Int) = z2 := by rw [hcx, a2.same, a0.same]; omega
  have hm : mExtS l k = mExtS pre k ++ (⟨z0, (mI x.body z1)⟩ : Ext) :: mExtS suf z2 := by rw [hl', mExtS_app pre _ k z0 a0, ← hmx, ← hzn]; rfl
  have y0 : x.body.length ≤ 1099511627776 := w0 x (by rw [hl']; simp)
  obtain ⟨g1, hg1⟩ := nm (row fI (mI x.body z1))
  rw [F.lt_t hi la (by rw [mExtS_len, hl']; simp)]; cbv
  obtain ⟨ix, hix⟩ := nm (pre.length * 2)
  have p0 : at' 2 ea i = some (ix, [.int .i64 z0, .row () g1]) := by simp only [hix, hg1]; have h := F.get (f := fExt) (k := 2) (show At i (mExtS pre k).length by rw [mExtS_len]; exact hi) hea hm (fun _ => rfl) (by decide); rw [mExtS_len] at h; exact h
  rw [p0]; cbv
  rw [F.ne_f rfl]; cbv
  rw [s1]
  rw [p0]; cbv
  have c1 : o 125 [R g1 (.sp 0 0), I z1] = some ⟨[I z2], [], none⟩ := by rw [ho, hg1, hz2]; exact ok125 _ _ m2 y0 rfl
  rw [c1]; cbv
  rw [show lt z2 0 = false by rw [F.lt]; simp; omega]; cbv
  refine ih (suf, pre ++ [x], z2, add .i64 i 1) ⟨at_len (F.inc hi (by omega)) (by simp), a2.eq (by simp [cExtS, cExt] <;> omega), by simp [hl']⟩ (by simp)
theorem ok82 (x : Hello) (k : Int) (hk : Lim k (nHello x)) (w : x.Mid) {f0 f1 : Fl} (q0 : inFl f0 = true) (q1 : inFl f1 = true) : fix Tb md 82 [sHello (row fI (wHello x k).versions) (row fExt (wHello x k).exts) f0 f1, I k] = some ⟨[I (k + (nHello x : Int))], [], none⟩ := by
 have hn : nHello x = x.versions.length + cExtS x.exts := rfl
 unfold Hello.Mid at w
 have a0 : AtK k k 0 := AtK.zero
 obtain ⟨z1, hz1⟩ := nm (k + (x.versions.length : Int))
 have a1 : AtK z1 k (0 + x.versions.length) := hz1 ▸ a0.plus
 have m1 : Lim k (x.versions.length) := a0.lim hk (by omega)
 have n1 : 0 ≤ z1 := by have := m1.nn; omega
 obtain ⟨z2, hz2⟩ := nm (z1 + (cExtS x.exts : Int))
 have a2 : AtK z2 k (0 + x.versions.length + cExtS x.exts) := hz2 ▸ a1.plus
 have m2 : Lim z1 (cExtS x.exts) := a1.lim hk (by omega)
 have n2 : 0 ≤ z2 := by have := m2.nn; omega
 rw [show k + (nHello x : Int) = z2 by rw [a2.same, hn]; simp]
 have x0 : (wHello x k).versions = mI x.versions k := by simp only [wHello, hz1, hz2]
 have x1 : (wHello x k).exts = mExtS x.exts z1 := by simp only [wHello, hz1, hz2]
 rw [x0, x1]
 refine fix_fn (fn := ir82) tb_82 rfl rfl (by decide) rfl ?_; simp only [shutArgs, shutS, List.map_cons, List.map_nil, ir82, shut_in q0, shut_in q1, List.head?_nil, reduceCtorEq, if_false, sExt, sHello, sAnswer, sEdit, sDeal, sBox, sDialed, sKnown]
 generalize hr : (⟨_, [], none⟩ : Ret) = r
 obtain ⟨g0, hg0⟩ := nm (row fI (mI x.versions k))
 obtain ⟨g1, hg1⟩ := nm (row fExt (mExtS x.exts z1))
 rw [← hg0, ← hg1]
 intro add sub mul arith eq ne lt le gt ge neg conv mn mx not beq len at' ln bd cut app allS isNil mks set o hP F ho
 have c1 : o 125 [R g0 (.sp 0 0), I k] = some ⟨[I z1], [], none⟩ := by rw [ho, hz1, hg0]; exact ok125 _ _ m1 (Nat.le_trans (w.1) (by decide)) rfl
 have c2 : o 236 [R g1 (.sp 0 0), I z1] = some ⟨[I z2], [], none⟩ := by rw [ho, hz2, hg1]; exact ok236 _ _ m2 (Nat.le_trans w.2.1 (by decide)) (fun y hy => Nat.le_trans ((w.2.2 y hy)) (by decide)) rfl
 cbv
 rw [c1]; cbv
 rw [show lt z1 0 = false by rw [F.lt]; simp; omega]; cbv
 rw [c2]; cbv
 rw [show lt z2 0 = false by rw [F.lt]; simp; omega]; cbv
 exact congrArg some hr
theorem ok227 {α : Type} (f : α → List V) (l : List α) (left : Int) (h : l.length ≤ 9223372036854775807) (h1 : 0 ≤ left) (h2 : left ≤ 1048576) {f0 : Fl} (h0 : inFl f0 = true) : fix Tb md 227 [R (row f l) f0, I left] = some ⟨[I (sz1 l.length left)], [], none⟩ := by
 by_cases hl : left - l.length < 0
 ·rw [show sz1 l.length left = -1 by unfold sz1; rw [if_pos hl]]
  refine fix_fn (fn := ir227) tb_227 rfl rfl (by decide) rfl ?_; simp only [shutArgs, shutS, List.map_cons, List.map_nil, ir227, shut_in h0, List.head?_nil, reduceCtorEq, if_false, sExt, sHello, sAnswer, sEdit, sDeal, sBox, sDialed, sKnown]
  generalize hr : (⟨_, [], none⟩ : Ret) = r
  obtain ⟨ea, hea⟩ := nm (row f l)
  rw [← hea]
  intro add sub mul arith eq ne lt le gt ge neg conv mn mx not beq len at' ln bd cut app allS isNil mks set o hP F ho
  have le := F.len_at hea
  unfold At at le
  have hs : lt (sub .i64 left (len ea)) 0 = true := by rw [F.lt, F.sub, le, wrap64 (by omega) (by omega)]; simp; omega
  cbv
  rw [hs]
  cbv
  exact congrArg some hr
 ·rw [show sz1 l.length left = left - l.length by unfold sz1; rw [if_neg hl]]
  refine fix_fn (fn := ir227) tb_227 rfl rfl (by decide) rfl ?_; simp only [shutArgs, shutS, List.map_cons, List.map_nil, ir227, shut_in h0, List.head?_nil, reduceCtorEq, if_false, sExt, sHello, sAnswer, sEdit, sDeal, sBox, sDialed, sKnown]
  obtain ⟨v, hv⟩ := nm (left - l.length)
  rw [← hv]
  generalize hr : (⟨_, [], none⟩ : Ret) = r
  obtain ⟨ea, hea⟩ := nm (row f l)
  rw [← hea]
  intro add sub mul arith eq ne lt le gt ge neg conv mn mx not beq len at' ln bd cut app allS isNil mks set o hP F ho
  have le := F.len_at hea
  unfold At at le
  have e1 : sub .i64 left (len ea) = v := by rw [F.sub, le, wrap64 (by omega) (by omega), hv]
  have hs : lt v 0 = false := by rw [F.lt, hv]; simp; omega
  cbv
  rw [e1, hs]
  cbv
  exact congrArg some hr
theorem ok319 (x : Ext) (left : Int) (w : x.Fits) (h1 : 0 ≤ left) (h2 : left ≤ 1048576) {f0 : Fl} (q0 : inFl f0 = true) :
  fix Tb md 319 [sExt x.tag (row fI x.body) f0, I left] = some ⟨[I (szExt x left)], [], none⟩ := by
 refine fix_fn (fn := ir319) tb_319 rfl rfl (by decide) rfl ?_; simp only [shutArgs, shutS, List.map_cons, List.map_nil, ir319, shut_in q0, List.head?_nil, reduceCtorEq, if_false, sExt, sHello, sAnswer, sEdit, sDeal, sBox, sDialed, sKnown]
 obtain ⟨v1, hv1⟩ := nm (sz1 x.body.length left)
 rw [show szExt x left = v1 by rw [hv1]; rfl]
 generalize hr : (⟨_, [], none⟩ : Ret) = r
 obtain ⟨e1, he1⟩ := nm (row fI x.body)
 rw [← he1]
 have g1 : v1 ≤ 1048576 := by rw [hv1]; exact (Sz.of1 x.body.length).up h2
 have l1 : -1 ≤ v1 := by rw [hv1]; exact (Sz.of1 x.body.length).lo _ h2
 unfold Ext.Fits at w
 intro add sub mul arith eq ne lt le gt ge neg conv mn mx not beq len at' ln bd cut app allS isNil mks set o hP F ho
 have c1 : o 227 [R e1 (.sp 0 0), I left] = some ⟨[I v1], [], none⟩ := by rw [ho, hv1, he1]; exact ok227 fI _ _ w.2.1 h1 h2 rfl
 cbv
 rw [c1]; cbv
 refine both (fun d1 => ?_) (fun d1 => ?_) <;> rw [d1] <;> cbv
 ·clear hP c1 ho; simp only [F.lt, decide_eq_true_eq] at d1; clear F; rw [← hr, show v1 = -1 by omega]
 exact congrArg some hr
theorem ok197 (l : List Ext) (left : Int) (w : l.length ≤ 9223372036854775807 ∧ ∀ y ∈ l, y.Fits) (h1 : 0 ≤ left) (h2 : left ≤ 1048576) {f0 : Fl} (q0 : inFl f0 = true) :
  fix Tb md 197 [R (row fExt l) f0, I left] = some ⟨[I (szL szExt l left)], [], none⟩ := by
 have w1 := w.1
 by_cases hl : left - l.length < 0
 ·rw [show szL szExt l left = -1 from szF_neg szExt_Sz l _ (by unfold sz1; rw [if_pos hl])]
  refine fix_fn (fn := ir197) tb_197 rfl rfl (by decide) rfl ?_; simp only [shutArgs, shutS, List.map_cons, List.map_nil, ir197, shut_in q0, List.head?_nil, reduceCtorEq, if_false, sExt, sHello, sAnswer, sEdit, sDeal, sBox, sDialed, sKnown]
  generalize hr : (⟨_, [], none⟩ : Ret) = r
  obtain ⟨ea, hea⟩ := nm (row fExt l)
  rw [← hea]
  intro add sub mul arith eq ne lt le gt ge neg conv mn mx not beq len at' ln bd cut app allS isNil mks set o hP F ho
  have le := F.len_at hea
  unfold At at le
  have hs : lt (sub .i64 left (len ea)) 0 = true := by rw [F.lt, F.sub, le, wrap64 (by omega) (by omega)]; simp; omega
  cbv
  rw [hs]
  cbv
  exact congrArg some hr
 ·have hT : szL szExt l left = l.foldl (fun a x => szExt x a) (left - l.length) := by unfold szL sz1; rw [if_neg hl]
  rw [hT]
  refine fix_fn (fn := ir197) tb_197 rfl rfl (by decide) rfl ?_; simp only [shutArgs, shutS, List.map_cons, List.map_nil, ir197, shut_in q0, List.head?_nil, reduceCtorEq, if_false, sExt, sHello, sAnswer, sEdit, sDeal, sBox, sDialed, sKnown]
  obtain ⟨v, hv⟩ := nm (left - l.length)
  rw [← hv]
  have u3 : 0 ≤ v := by omega
  have u4 : v ≤ 1048576 := by omega
  have u5 : l.length ≤ 1048576 := by omega
  obtain ⟨T, hT⟩ := nm (l.foldl (fun a x => szExt x a) v)
  rw [← hT]
  generalize hr : (⟨_, [], none⟩ : Ret) = r
  obtain ⟨ea, hea⟩ := nm (row fExt l)
  rw [← hea]
  intro add sub mul arith eq ne lt le gt ge neg conv mn mx not beq len at' ln bd cut app allS isNil mks set o hP F ho
  have le := F.len_at hea
  have e1 : sub .i64 left (len ea) = v := by unfold At at le; rw [F.sub, le, wrap64 (by omega) (by omega), hv]
  have hs : lt v 0 = false := by rw [F.lt, hv]; simp; omega
  cbv
  rw [e1, hs]
  cbv
  refine loop_ind hP (σ := List (Ext) × List (Ext) × Int × Int) (fun s => [(0, R ea .sh), (1, I s.2.2.1), (4, I 0), (5, I s.2.2.2)])
   (fun s => At s.2.2.2 s.2.1.length ∧ l = s.2.1 ++ s.1 ∧ 0 ≤ s.2.2.1 ∧ s.2.2.1 ≤ 1048576 ∧ s.1.foldl (fun a x => szExt x a) s.2.2.1 = T) (fun s => s.1.length) (l, [], v, 0) rfl ⟨rfl, rfl, u3, u4, hT.symm⟩ ?_
  rintro ⟨suf, pre, a, i⟩ ⟨hi, hl', ha0, ha1, hf⟩ ih
  simp only at hi hl' ha0 ha1 hf ih
  cbv
  cases suf with
  | nil =>
   rw [F.lt_f hi le (by simp [hl'])]; cbv
   simp only [List.foldl_nil] at hf
   rw [← hr, hf]
  | cons x suf =>
   rw [F.lt_t hi le (by simp [hl'])]; cbv
   rw [List.foldl_cons] at hf
   obtain ⟨e1, he1⟩ := nm (row fI x.body)
   obtain ⟨ix, hix⟩ := nm (pre.length * 2)
   rw [show at' 2 ea i = some (ix, [.int .i64 x.tag, .row () e1]) by rw [hix, he1]; exact F.get hi hea hl' (fun _ => rfl) (by decide)]; cbv
   obtain ⟨a', ha'⟩ := nm (szExt x a)
   rw [← ha'] at hf
   have u1 : a' ≤ 1048576 := by rw [ha']; exact (szExt_Sz x).up ha1
   have u2 : -1 ≤ a' := by rw [ha']; exact (szExt_Sz x).lo _ ha1
   have c1 : o 319 [sExt x.tag e1 (.sp 0 1), I a] = some ⟨[I a'], [], none⟩ := by rw [ho, ha', he1]; exact ok319 x a (w.2 x (by rw [hl']; simp)) ha0 ha1 rfl
   rw [c1]; cbv
   refine both (fun c => ?_) (fun c => ?_) <;> rw [c] <;> cbv
   ·simp only [F.lt, decide_eq_true_eq] at c
    rw [← hr, ← hf, szF_neg szExt_Sz suf a' (by omega)]
   ·simp only [F.lt, decide_eq_false_iff_not] at c
    refine ih (suf, pre ++ [x], a', add .i64 i 1) ⟨at_len (F.inc hi (by simp [hl'] at u5; omega)) (by simp), by simp [hl'], by simp only; omega, u1, hf⟩ (by simp)
theorem ok83 (x : Hello) (left : Int) (w : x.Fits) (h1 : 0 ≤ left) (h2 : left ≤ 1048576) {f0 f1 : Fl} (q0 : inFl f0 = true) (q1 : inFl f1 = true) :
  fix Tb md 83 [sHello (row fI x.versions) (row fExt x.exts) f0 f1, I left] = some ⟨[I (szHello x left)], [], none⟩ := by
 refine fix_fn (fn := ir83) tb_83 rfl rfl (by decide) rfl ?_; simp only [shutArgs, shutS, List.map_cons, List.map_nil, ir83, shut_in q0, shut_in q1, List.head?_nil, reduceCtorEq, if_false, sExt, sHello, sAnswer, sEdit, sDeal, sBox, sDialed, sKnown]
 obtain ⟨v1, hv1⟩ := nm (sz1 x.versions.length left)
 obtain ⟨v2, hv2⟩ := nm (szL szExt x.exts v1)
 rw [show szHello x left = v2 by rw [hv2, hv1]; rfl]
 generalize hr : (⟨_, [], none⟩ : Ret) = r
 obtain ⟨e1, he1⟩ := nm (row fI x.versions)
 obtain ⟨e2, he2⟩ := nm (row fExt x.exts)
 rw [← he1, ← he2]
 have g1 : v1 ≤ 1048576 := by rw [hv1]; exact (Sz.of1 x.versions.length).up h2
 have l1 : -1 ≤ v1 := by rw [hv1]; exact (Sz.of1 x.versions.length).lo _ h2
 have g2 : v2 ≤ 1048576 := by rw [hv2]; exact (Sz.list szExt_Sz x.exts).up g1
 have l2 : -1 ≤ v2 := by rw [hv2]; exact (Sz.list szExt_Sz x.exts).lo _ g1
 have n2 : v1 < 0 → v2 = -1 := fun q => by rw [hv2]; exact (Sz.list szExt_Sz x.exts).neg _ q
 unfold Hello.Fits at w
 intro add sub mul arith eq ne lt le gt ge neg conv mn mx not beq len at' ln bd cut app allS isNil mks set o hP F ho
 have c1 : o 227 [R e1 (.sp 0 0), I left] = some ⟨[I v1], [], none⟩ := by rw [ho, hv1, he1]; exact ok227 fI _ _ w.1.1 h1 h2 rfl
 have c2 : 0 ≤ v1 → o 197 [R e2 (.sp 0 0), I v1] = some ⟨[I v2], [], none⟩ := by intro q; rw [ho, hv2, he2]; exact ok197 _ _ w.2 q g1 rfl
 cbv
 rw [c1]; cbv
 refine both (fun d1 => ?_) (fun d1 => ?_) <;> rw [d1] <;> cbv
 ·clear hP c1 c2 ho; simp only [F.lt, decide_eq_true_eq] at d1; clear F; rw [← hr, show v2 = -1 by omega]
 rw [c2 (by simp only [F.lt, decide_eq_false_iff_not] at d1; omega)]; cbv
 refine both (fun d2 => ?_) (fun d2 => ?_) <;> rw [d2] <;> cbv
 ·clear hP c1 c2 ho; simp only [F.lt, decide_eq_true_eq] at d2; clear F; rw [← hr, show v2 = -1 by omega]
 exact congrArg some hr
theorem ok76 (l : List Int) (hl : l.length ≤ 1099511627776) {f0 : Fl} (h0 : inFl f0 = true) : fix Tb md 76 [R (row fI l) f0] = some ⟨[R (row fI l) (.ow false)], [], none⟩ := by
 refine fix_fn (fn := ir76) tb_76 rfl rfl (by decide) rfl ?_; simp only [shutArgs, shutS, List.map_cons, List.map_nil, ir76, shut_in h0, List.head?_nil, reduceCtorEq, if_false, sExt, sHello, sAnswer, sEdit, sDeal, sBox, sDialed, sKnown]
 generalize hr : (⟨_, [], none⟩ : Ret) = r
 obtain ⟨e1, he1⟩ := nm (row fI l)
 rw [← he1] at hr ⊢
 intro add sub mul arith eq ne lt le gt ge neg conv mn mx not beq len at' ln bd cut app allS isNil mks set o hP F ho
 have la := F.len_at he1
 cbv
 obtain ⟨e2, he2⟩ := nm (row fI (List.replicate l.length 0))
 rw [show mks [.int .i64 0] (len e1) (len e1) = some e2 by rw [F.mks, show len e1 = _ from la, he2]; exact row_mk (f := fI) (a := 0) rfl (by simp [fI]) hl]; cbv
 refine loop_ind hP (σ := List Int × List Int × List (List V) × Int) (fun s => [(0, R e1 .sh), (2, R [] .nl), (3, R s.2.2.1 (.ow false)), (4, I s.2.2.2)])
  (fun s => At s.2.2.2 s.2.1.length ∧ l = s.2.1 ++ s.1 ∧ s.2.2.1 = row fI (s.2.1 ++ List.replicate s.1.length 0)) (fun s => s.1.length) (l, [], e2, 0) rfl ⟨rfl, rfl, by simpa using he2⟩ ?_
 rintro ⟨suf, pre, eo, i⟩ ⟨hi, hl', heo⟩ ih
 simp only at hi hl' heo ih
 cbv
 cases suf with
 | nil =>
  rw [F.lt_f hi la (by simp [hl'])]; cbv
  rw [← hr, heo, he1, hl']; simp
 | cons x suf =>
  rw [F.lt_t hi la (by simp [hl'])]; cbv
  obtain ⟨ix, hix⟩ := nm (pre.length * 1)
  rw [show at' 1 e1 i = some (ix, [.int .i64 x]) by rw [hix]; exact F.get hi he1 hl' (fun _ => rfl) (by decide)]; cbv
  rw [show at' 1 eo i = some (ix, [.int .i64 0]) by rw [hix]; exact F.get hi heo rfl (fun _ => rfl) (by decide)]; cbv
  obtain ⟨eo', heo'⟩ := nm (row fI (pre ++ x :: List.replicate suf.length 0))
  rw [show set eo ix [.int .i64 x] = some eo' by rw [F.set, heo, hix, heo']; exact set_one (fun _ => rfl) rfl]; cbv
  refine ih (suf, pre ++ [x], eo', add .i64 i 1) ⟨at_len (F.inc hi (by simp [hl'] at hl; omega)) (by simp), by simp [hl'], by simp [heo']⟩ (by simp)
theorem ok320 (x : Ext) (w : x.Mid) {f0 : Fl} (q0 : inFl f0 = true) :
  fix Tb md 320 [sExt x.tag (row fI x.body) f0] = some ⟨[sExt x.tag (row fI x.body) (.ow false)], [], none⟩ := by
 refine fix_fn (fn := ir320) tb_320 rfl rfl (by decide) rfl ?_; simp only [shutArgs, shutS, List.map_cons, List.map_nil, ir320, shut_in q0, List.head?_nil, reduceCtorEq, if_false, sExt, sHello, sAnswer, sEdit, sDeal, sBox, sDialed, sKnown]
 generalize hr : (⟨_, [], none⟩ : Ret) = r
 obtain ⟨e1, he1⟩ := nm (row fI x.body)
 rw [← he1] at hr ⊢
 unfold Ext.Mid at w
 intro add sub mul arith eq ne lt le gt ge neg conv mn mx not beq len at' ln bd cut app allS isNil mks set o hP F ho
 have c1 : o 76 [R e1 (.sp 0 0)] = some ⟨[R e1 (.ow false)], [], none⟩ := by rw [ho, he1]; exact ok76 _ (by have := w; omega) rfl
 cbv
 rw [c1]; cbv
 exact congrArg some hr
theorem ok199 (l : List (Ext)) (w : l.length ≤ 1073741824 ∧ ∀ y ∈ l, y.Mid) {f0 : Fl} (q0 : inFl f0 = true) :
  fix Tb md 199 [R (row fExt l) f0] = some ⟨[R (row fExt l) (.ow false)], [], none⟩ := by
 have w1 := w.1
 refine fix_fn (fn := ir199) tb_199 rfl rfl (by decide) rfl ?_; simp only [shutArgs, shutS, List.map_cons, List.map_nil, ir199, shut_in q0, List.head?_nil, reduceCtorEq, if_false, sExt, sHello, sAnswer, sEdit, sDeal, sBox, sDialed, sKnown]
 generalize hr : (⟨_, [], none⟩ : Ret) = r
 obtain ⟨ea, hea⟩ := nm (row fExt l)
 rw [← hea] at hr ⊢
 intro add sub mul arith eq ne lt le gt ge neg conv mn mx not beq len at' ln bd cut app allS isNil mks set o hP F ho
 have la := F.len_at hea
 cbv
 obtain ⟨e0, he0⟩ := nm (row fExt (List.replicate l.length (⟨0, []⟩ : Ext)))
 rw [show mks [.int .i64 0, .row () []] (len ea) (len ea) = some e0 by rw [F.mks, show len ea = _ from la, he0]; exact row_mk (f := fExt) (a := (⟨0, []⟩ : Ext)) rfl (by simp [fExt]) (show l.length ≤ 1099511627776 by omega)]; cbv
 refine loop_ind hP (σ := List (Ext) × List (Ext) × List (List V) × Int) (fun s => [(0, R ea .sh), (2, R [] .nl), (3, R s.2.2.1 (.ow false)), (4, I s.2.2.2)])
  (fun s => At s.2.2.2 s.2.1.length ∧ l = s.2.1 ++ s.1 ∧ s.2.2.1 = row fExt (s.2.1 ++ List.replicate s.1.length (⟨0, []⟩ : Ext))) (fun s => s.1.length) (l, [], e0, 0) rfl ⟨rfl, rfl, by simpa using he0⟩ ?_
 rintro ⟨suf, pre, eo, i⟩ ⟨hi, hl', heo⟩ ih
 simp only at hi hl' heo ih
 cbv
 cases suf with
 | nil =>
  rw [F.lt_f hi la (by simp [hl'])]; cbv
  rw [← hr, heo, hea, hl']; simp
 | cons x suf =>
  rw [F.lt_t hi la (by simp [hl'])]; cbv
  obtain ⟨e1, he1⟩ := nm (row fI x.body)
  obtain ⟨ix, hix⟩ := nm (pre.length * 2)
  rw [show at' 2 ea i = some (ix, [.int .i64 x.tag, .row () e1]) by rw [hix, he1]; exact F.get hi hea hl' (fun _ => rfl) (by decide)]; cbv
  have c1 : o 320 [sExt x.tag e1 (.sp 0 1)] = some ⟨[sExt x.tag e1 (.ow false)], [], none⟩ := by rw [ho, he1]; exact ok320 x (w.2 x (by rw [hl']; simp)) rfl
  rw [c1]; cbv
  rw [show at' 2 eo i = some (ix, [.int .i64 0, .row () []]) by rw [hix]; exact F.get hi heo rfl (fun _ => rfl) (by decide)]; cbv
  obtain ⟨eo', heo'⟩ := nm (row fExt (pre ++ x :: List.replicate suf.length (⟨0, []⟩ : Ext)))
  rw [show set eo ix [.int .i64 x.tag, .row () e1] = some eo' by rw [F.set, heo, hix, heo', he1]; exact set_all (fun _ => rfl) rfl]; cbv
  refine ih (suf, pre ++ [x], eo', add .i64 i 1) ⟨at_len (F.inc hi (by simp [hl'] at w1; omega)) (by simp), by simp [hl'], by simp [heo']⟩ (by simp)
theorem ok85 (x : Hello) (w : x.Mid) {f0 f1 : Fl} (q0 : inFl f0 = true) (q1 : inFl f1 = true) :
  fix Tb md 85 [sHello (row fI x.versions) (row fExt x.exts) f0 f1] = some ⟨[sHello (row fI x.versions) (row fExt x.exts) (.ow false) (.ow false)], [], none⟩ := by
 refine fix_fn (fn := ir85) tb_85 rfl rfl (by decide) rfl ?_; simp only [shutArgs, shutS, List.map_cons, List.map_nil, ir85, shut_in q0, shut_in q1, List.head?_nil, reduceCtorEq, if_false, sExt, sHello, sAnswer, sEdit, sDeal, sBox, sDialed, sKnown]
 generalize hr : (⟨_, [], none⟩ : Ret) = r
 obtain ⟨e1, he1⟩ := nm (row fI x.versions)
 obtain ⟨e2, he2⟩ := nm (row fExt x.exts)
 rw [← he1, ← he2] at hr ⊢
 unfold Hello.Mid at w
 intro add sub mul arith eq ne lt le gt ge neg conv mn mx not beq len at' ln bd cut app allS isNil mks set o hP F ho
 have c1 : o 76 [R e1 (.sp 0 0)] = some ⟨[R e1 (.ow false)], [], none⟩ := by rw [ho, he1]; exact ok76 _ (by have := w.1; omega) rfl
 have c2 : o 199 [R e2 (.sp 0 0)] = some ⟨[R e2 (.ow false)], [], none⟩ := by rw [ho, he2]; exact ok199 _ w.2 rfl
 cbv
 rw [c1]; cbv
 rw [c2]; cbv
 exact congrArg some hr
end Go.Vm
