/- What the functions answer. -/
import Derived.Test.YtijojkfdbpiimabGPTab
import Derived.Test.YtijojkfdbpiimabGPFA
import Derived.Test.YtijojkfdbpiimabGPFB
import Derived.Test.YtijojkfdbpiimabGPFC
import Derived.Test.YtijojkfdbpiimabGPFD
import Derived.Test.YtijojkfdbpiimabGPFF
import Derived.Test.YtijojkfdbpiimabGPFH
import Derived.Test.YtijojkfdbpiimabGPFK
import Derived.Test.YtijojkfdbpiimabGPFL
set_option maxHeartbeats 4000000
set_option maxRecDepth 10000
set_option linter.unusedVariables false
set_option linter.unusedSimpArgs false
namespace Go.Vm
theorem fitsV_eq (h : Hello) (a : Answer) : fitsV h a = (isHel h && isAns a.version a.exts && hasI h.versions a.version && decide ((sel (notIn (tags h.exts)) idI (tags a.exts)).length = 0) && !(tags a.exts).any resv) := by
 rw [notIn_nil]
 have e : a.exts.all (okT h) = ((tags a.exts).all (hasI (tags h.exts)) && !(tags a.exts).any resv) := by
  rw [tags_map a.exts]
  induction a.exts with
  | nil => rfl
  | cons y l ih =>
   rw [List.all_cons, ih, List.map_cons, List.all_cons, List.any_cons, okT, extOf_neg]
   cases hasI (tags h.exts) y.tag <;> cases resv y.tag <;> simp
 rw [fitsV, e]
 cases isHel h <;> cases isAns a.version a.exts <;> cases hasI h.versions a.version <;> simp
theorem ok161 (h : Hello) (a : Answer) (mh : h.Mid) (ma : a.Mid) {f0 f1 f2 : Fl} (q0 : inFl f0 = true) (q1 : inFl f1 = true) (q2 : inFl f2 = true) : fix Tb md 161 [sHello (row fI h.versions) (row fExt h.exts) f0 f1, sAnswer a.version (row fExt a.exts) f2] = some ⟨[B (fitsV h a)], [], none⟩ := by
 unfold Hello.Mid at mh
 unfold Answer.Mid at ma
 obtain ⟨u1, hu1⟩ := nm (isHel h)
 obtain ⟨u2, hu2⟩ := nm (isAns a.version a.exts)
 obtain ⟨u3, hu3⟩ := nm (hasI h.versions a.version)
 obtain ⟨u4, hu4⟩ := nm (decide ((sel (notIn (tags h.exts)) idI (tags a.exts)).length = 0))
 obtain ⟨u5, hu5⟩ := nm ((tags a.exts).any resv)
 rw [fitsV_eq, ← hu1, ← hu2, ← hu3, ← hu4, ← hu5]
 generalize hr : (⟨_, [], none⟩ : Ret) = r
 obtain ⟨dv, hdv⟩ := nm (row fI h.versions)
 obtain ⟨dx, hdx⟩ := nm (row fExt h.exts)
 obtain ⟨ex, hex⟩ := nm (row fExt a.exts)
 rw [← hdv, ← hdx, ← hex]
 obtain ⟨th, hth⟩ := nm (row fI (tags h.exts))
 obtain ⟨ta, hta⟩ := nm (row fI (tags a.exts))
 obtain ⟨ez, hez⟩ := nm (row fI (sel (notIn (tags h.exts)) idI (tags a.exts)))
 have tl1 : (tags h.exts).length ≤ h.exts.length := sel_len
 have tl2 : (tags a.exts).length ≤ a.exts.length := sel_len
 have wh : ∀ y ∈ h.exts, y.body.length ≤ 1099511627776 := fun y hy => Nat.le_trans (show y.body.length ≤ 1073741824 from mh.2.2 y hy) (by decide)
 have wa : ∀ y ∈ a.exts, y.body.length ≤ 1099511627776 := fun y hy => Nat.le_trans (show y.body.length ≤ 1073741824 from ma.2 y hy) (by decide)
 refine fix_fn2 (fn := ir161) tb_161 rfl rfl (by decide) rfl ?_; intro Q hQ; simp only [shutArgs, shutS, List.map_cons, List.map_nil, ir161, shut_in q0, shut_in q1, shut_in q2, List.head?_nil, reduceCtorEq, if_false, sExt, sHello, sAnswer, sEdit, sDeal, sBox, sDialed, sKnown]
 intro add sub mul arith eq ne lt le gt ge neg conv mn mx not beq len at' ln bd cut app allS isNil mks set o hP F ho
 have lz := F.len_at hez
 have c1 : o 113 [sHello dv dx (.sp 0 0) (.sp 0 1)] = some ⟨[B u1], [], none⟩ := by rw [ho, hu1, hdv, hdx]; exact ok113 _ (by omega) (by omega) wh rfl rfl
 have c2 : o 118 [sAnswer a.version ex (.sp 0 1)] = some ⟨[B u2], [], none⟩ := by rw [ho, hu2, hex]; exact ok118 _ _ (by omega) wa rfl
 have c3 : o 302 [R dv (.sp 0 0), I a.version] = some ⟨[B u3], [], none⟩ := by rw [ho, hu3, hdv]; exact ok302 _ _ (by omega) rfl
 have c4 : o 179 [R ex (.sp 0 0)] = some ⟨[R ta (.ow false)], [], none⟩ := by rw [ho, hta, hex]; exact ok179 _ (by omega) rfl
 have c5 : o 179 [R dx (.sp 0 0)] = some ⟨[R th (.ow false)], [], none⟩ := by rw [ho, hth, hdx]; exact ok179 _ (by omega) rfl
 have c6 : o 287 [R ta (.sp 0 0), R th (.sp 1 0)] = some ⟨[R ez (.ow false)], [], none⟩ := by rw [ho, hez, hth, hta]; exact ok287 _ _ (by omega) (by omega) rfl rfl
 have c7 : o 303 [R ex (.sp 0 0)] = some ⟨[B u5], [], none⟩ := by rw [ho, hu5, hex]; exact ok303 _ (by omega) rfl
 have g1 : eq (len ez) 0 = u4 := by rw [F.eq_n lz (k := 0) (m := 0) rfl, hu4]
 cbv
 rw [c1]; cbv
 refine both (fun d1 => ?_) (fun d1 => ?_) <;> rw [d1] <;> cbv
 rotate_left
 ·rw [hQ]; cbv
  rw [← hr, d1]; rfl
 rw [c2]; cbv
 refine both (fun d2 => ?_) (fun d2 => ?_) <;> rw [d2] <;> cbv
 rotate_left
 ·rw [hQ]; cbv
  rw [← hr, d1, d2]; rfl
 rw [c3]; cbv
 refine both (fun d3 => ?_) (fun d3 => ?_) <;> rw [d3] <;> cbv
 rotate_left
 ·rw [hQ]; cbv
  rw [← hr, d1, d2, d3]; rfl
 rw [c4]; cbv
 rw [c5]; cbv
 rw [c6]; cbv
 rw [g1]; cbv
 refine both (fun d4 => ?_) (fun d4 => ?_) <;> rw [d4] <;> cbv
 rotate_left
 ·rw [hQ]; cbv
  rw [← hr, d1, d2, d3, d4]; rfl
 rw [c7]; cbv
 rw [hQ]; cbv
 rw [← hr, d1, d2, d3, d4, F.not]; rfl
theorem ok163 (h : Hello) (mh : h.Mid) {f0 f1 : Fl} (q0 : inFl f0 = true) (q1 : inFl f1 = true) : fix Tb md 163 [sHello (row fI h.versions) (row fExt h.exts) f0 f1] = some ⟨[R (row fI (helB h)) (.ow false)], [], none⟩ ∨ (helB h = [] ∧ fix Tb md 163 [sHello (row fI h.versions) (row fExt h.exts) f0 f1] = some ⟨[R [] .nl], [], none⟩) := by
 have mh' := mh
 unfold Hello.Mid at mh'
 have hvl := mh'.1
 have hxl := mh'.2.1
 have wh : ∀ y ∈ h.exts, y.body.length ≤ 1099511627776 := fun y hy => Nat.le_trans (show y.body.length ≤ 1073741824 from mh'.2.2 y hy) (by decide)
 have k1 := ok113 h (by omega) (by omega) wh (f0 := .sp 0 0) (f1 := .sp 0 1) rfl rfl
 cases hi : isHel h with
 | false =>
  rw [hi] at k1
  have hb : helB h = [] := by unfold helB; rw [hi]; rfl
  refine .inr ⟨hb, ?_⟩
  generalize hr : (⟨_, [], none⟩ : Ret) = r
  obtain ⟨dv, hdv⟩ := nm (row fI h.versions)
  obtain ⟨dx, hdx⟩ := nm (row fExt h.exts)
  rw [← hdv, ← hdx] at k1 ⊢
  refine fix_fn2 (fn := ir163) tb_163 rfl rfl (by decide) rfl ?_; intro Q hQ; simp only [shutArgs, shutS, List.map_cons, List.map_nil, ir163, shut_in q0, shut_in q1, List.head?_nil, reduceCtorEq, if_false, sExt, sHello, sAnswer, sEdit, sDeal, sBox, sDialed, sKnown]
  intro add sub mul arith eq ne lt le gt ge neg conv mn mx not beq len at' ln bd cut app allS isNil mks set o hP F ho
  rw [← ho] at k1
  cbv
  rw [k1]; cbv
  rw [show not false = true by rw [F.not]; rfl]; cbv
  rw [hQ]; cbv
  exact congrArg some hr
 | true =>
  rw [hi] at k1
  have hok := isHel_ex hi
  have hlen := encX_len hok
  have hb : helB h = (h.versions.length : Int) :: h.versions ++ encX h.exts := by unfold helB; rw [hi]; rfl
  refine .inl ?_
  rw [hb]
  obtain ⟨n, hn⟩ := nm ((h.versions.length : Int))
  obtain ⟨et, het⟩ := nm (row fI (n :: h.versions ++ encX h.exts))
  rw [← hn, ← het]
  generalize hr : (⟨_, [], none⟩ : Ret) = r
  obtain ⟨dv, hdv⟩ := nm (row fI h.versions)
  obtain ⟨dx, hdx⟩ := nm (row fExt h.exts)
  rw [← hdv, ← hdx] at k1 ⊢
  obtain ⟨ex, hex⟩ := nm (row fI (encX h.exts))
  refine fix_fn2 (fn := ir163) tb_163 rfl rfl (by decide) rfl ?_; intro Q hQ; simp only [shutArgs, shutS, List.map_cons, List.map_nil, ir163, shut_in q0, shut_in q1, List.head?_nil, reduceCtorEq, if_false, sExt, sHello, sAnswer, sEdit, sDeal, sBox, sDialed, sKnown]
  intro add sub mul arith eq ne lt le gt ge neg conv mn mx not beq len at' ln bd cut app allS isNil mks set o hP F ho
  rw [← ho] at k1
  have c2 : o 294 [R dx (.sp 0 0)] = some ⟨[R ex (.ow false), B true], [], none⟩ := by rw [ho, hdx, hex]; exact ok294 _ hok rfl
  have g1 : len dv = n := by rw [hn]; exact F.len_at hdv
  cbv
  rw [k1]; cbv
  rw [show not true = false by rw [F.not]; rfl]; cbv
  rw [c2]; cbv
  rw [g1]; cbv
  have c3 : o 304 [R [[.row () [[.int .i64 n]]], [.row () dv], [.row () ex]] (.sp 0 0)] = some ⟨[R et (.ow false)], [], none⟩ := by
   rw [ho, het, hdv, hex]
   have := ok304 [[n], h.versions, encX h.exts] (by simp) (by simp; omega) (by simp) (f0 := .sp 0 0) rfl
   simpa [row, fR, fI] using this
  rw [c3]; cbv
  rw [hQ]; cbv
  exact congrArg some hr
theorem ok180 (l b : List Int) (hl : l.length ≤ 1073741824) (hb' : b.length ≤ 1073741824) {f0 f1 : Fl} (h0 : inFl f0 = true) (h1 : inFl f1 = true) : fix Tb md 180 [R (row fI l) f0, R (row fI b) f1] = some ⟨[R (row fI (sel (hasI b) idI l)) (.ow false)], [], none⟩ := by
 obtain ⟨et, het⟩ := nm (row fI (sel (hasI b) idI l))
 rw [← het]
 generalize hr : (⟨_, [], none⟩ : Ret) = r
 obtain ⟨ea, hea⟩ := nm (row fI l)
 obtain ⟨eb, heb⟩ := nm (row fI b)
 rw [← hea, ← heb]
 refine fix_fn2 (fn := ir180) tb_180 rfl rfl (by decide) rfl ?_; intro Q hQ; simp only [shutArgs, shutS, List.map_cons, List.map_nil, ir180, shut_in h0, shut_in h1, List.head?_nil, reduceCtorEq, if_false, sExt, sHello, sAnswer, sEdit, sDeal, sBox, sDialed, sKnown]
 intro add sub mul arith eq ne lt le gt ge neg conv mn mx not beq len at' ln bd cut app allS isNil mks set o hP F ho
 have la := F.len_at hea
 cbv
 refine loop_ind2 hP (σ := List Int × List Int × List (List V) × Int × Option (Int)) (fun s => match s.2.2.2.2 with | none => [(0, R ea .sh), (1, R eb .sh), (4, R [] .nl), (5, R s.2.2.1 (.ow false)), (9, R ea .sh), (10, I (len ea)), (11, I s.2.2.2.1)] | some j => [(0, R ea .sh), (1, R eb .sh), (4, R [] .nl), (5, R s.2.2.1 (.ow false)), (7, I j), (9, R ea .sh), (10, I (len ea)), (11, I s.2.2.2.1)]) (fun s => At s.2.2.2.1 s.2.1.length ∧ l = s.2.1 ++ s.1 ∧ s.2.2.1 = row fI (sel (hasI b) idI s.2.1)) (fun s => s.1.length) (l, [], [], 0, none) rfl ⟨rfl, rfl, rfl⟩ ?_
 intro c1 Q1 hc1 hQ1
 rintro ⟨suf, pre, eo, i, j⟩ ⟨hi, hl', hb⟩ ih
 simp only at hi hl' hb ih
 rcases j with _ | _
 all_goals
  cbv
  cases suf with
  | nil =>
   rw [F.lt_f hi la (by simp [hl'])]; cbv
   rw [hQ1]; cbv
   rw [hQ]; cbv
   rw [← hr, het, hb, hl', List.append_nil]
  | cons x suf =>
   obtain ⟨ix, hix⟩ := nm (pre.length * 1)
   have hpre : pre.length ≤ 1073741824 := by rw [hl'] at hl; simp at hl; omega
   have hs : (sel (hasI b) idI pre).length ≤ pre.length := sel_len
   have hi' : At (add .i64 i 1) (pre ++ [x]).length := at_len (F.inc hi (by omega)) (by simp)
   have hl2 : l = (pre ++ [x]) ++ suf := by rw [hl']; simp
   have hmem : x ∈ l := by rw [hl']; simp
   have p0 : at' 1 ea i = some (ix, [.int .i64 x]) := by rw [hix]; exact F.get hi hea hl' (fun _ => rfl) (by decide)
   obtain ⟨v, hv⟩ := nm (hasI b x)
   have c2 : o 302 [R eb (.sp 0 0), I x] = some ⟨[B v], [], none⟩ := by rw [ho, hv, heb]; exact ok302 _ _ (by omega) rfl
   rw [F.lt_t hi la (by simp [hl'])]; cbv
   rw [p0]; cbv
   rw [c2]; cbv
   refine both (fun d => ?_) (fun d => ?_) <;> rw [d] <;> cbv
   ·rw [show allS [[.int .i64 x]] = true by rw [F.allS]; rfl]; cbv
    obtain ⟨eo', heo'⟩ := nm (row fI (sel (hasI b) idI pre ++ [idI x]))
    rw [show app 1 eo [[.int .i64 x]] = some eo' by rw [heo']; exact F.push hb (fun _ => rfl) rfl (by omega)]; cbv
    refine ih (suf, pre ++ [x], eo', add .i64 i 1, some x) ⟨hi', hl2, by simp only; rw [heo', sel_t (by rw [← hv, d])]⟩ (by simp)
   ·refine ih (suf, pre ++ [x], eo, add .i64 i 1, some x) ⟨hi', hl2, by simp only; rw [hb, sel_f (by rw [← hv, d])]⟩ (by simp)
theorem ok111 (a b : List Int) (ha : a.length ≤ 1073741824) (hb : b.length ≤ 1073741824) {f0 f1 : Fl} (q0 : inFl f0 = true) (q1 : inFl f1 = true) : fix Tb md 111 [R (row fI a) f0, R (row fI b) f1] = some ⟨[I (bestC a b)], [], none⟩ := by
 obtain ⟨u, hu⟩ := nm (areVer a)
 obtain ⟨v, hv⟩ := nm (areVer b)
 obtain ⟨l, hl⟩ := nm (comm a b)
 obtain ⟨T, hT⟩ := nm (bestC a b)
 rw [← hT]
 have hT' : T = if u && v then l.foldl mxI 0 else 0 := by
  rw [hT, hu, hv, hl]
  cases hva : areVer a with
  | false => unfold bestC; rw [hva]; rfl
  | true => rw [comm_max hva]; unfold bestC; rw [hva]
 clear hT
 have hll : l.length ≤ 1073741824 := by rw [hl]; exact Nat.le_trans sel_len ha
 generalize hr : (⟨_, [], none⟩ : Ret) = r
 obtain ⟨ea, hea⟩ := nm (row fI a)
 obtain ⟨eb, heb⟩ := nm (row fI b)
 rw [← hea, ← heb]
 obtain ⟨el, hel⟩ := nm (row fI l)
 refine fix_fn2 (fn := ir111) tb_111 rfl rfl (by decide) rfl ?_; intro Q hQ; simp only [shutArgs, shutS, List.map_cons, List.map_nil, ir111, shut_in q0, shut_in q1, List.head?_nil, reduceCtorEq, if_false, sExt, sHello, sAnswer, sEdit, sDeal, sBox, sDialed, sKnown]
 intro add sub mul arith eq ne lt le gt ge neg conv mn mx not beq len at' ln bd cut app allS isNil mks set o hP F ho
 have ll := F.len_at hel
 have c1 : o 180 [R ea (.sp 0 0), R eb (.sp 1 0)] = some ⟨[R el (.ow false)], [], none⟩ := by rw [ho, hel, hl, hea, heb]; exact ok180 _ _ ha hb rfl rfl
 have c2 : o 255 [R ea (.sp 0 0)] = some ⟨[B u], [], none⟩ := by rw [ho, hu, hea]; exact ok255 _ (by omega) rfl
 have c3 : o 255 [R eb (.sp 0 0)] = some ⟨[B v], [], none⟩ := by rw [ho, hv, heb]; exact ok255 _ (by omega) rfl
 cbv
 rw [c2]; cbv
 refine both (fun d1 => ?_) (fun d1 => ?_) <;> rw [d1] <;> cbv
 ·rw [hQ]; cbv
  rw [← hr, hT', F.not_t d1]; rfl
 rw [c3]; cbv
 refine both (fun d2 => ?_) (fun d2 => ?_) <;> rw [d2] <;> cbv
 ·rw [hQ]; cbv
  rw [← hr, hT', F.not_f d1, F.not_t d2]; rfl
 rw [c1]; cbv
 have hT2 : T = l.foldl mxI 0 := by rw [hT', F.not_f d1, F.not_f d2]; rfl
 refine loop_ind2 hP (σ := List Int × List Int × Int × Int × Option Int) (fun s => match s.2.2.2.2 with
  | none => [(0, R ea .sh), (1, R eb .sh), (4, I 0), (5, I s.2.2.1), (18, R el (.ow false)), (19, I (len el)), (20, I s.2.2.2.1)]
  | some j => [(0, R ea .sh), (1, R eb .sh), (4, I 0), (5, I s.2.2.1), (7, I j), (18, R el (.ow false)), (19, I (len el)), (20, I s.2.2.2.1)]) (fun s => At s.2.2.2.1 s.2.1.length ∧ l = s.2.1 ++ s.1 ∧ s.1.foldl mxI s.2.2.1 = T) (fun s => s.1.length) (l, [], 0, 0, none) rfl ⟨rfl, rfl, hT2.symm⟩ ?_
 intro c9 Q1 hc9 hQ1
 rintro ⟨suf, pre, d, i, j⟩ ⟨hi, hl', hb⟩ ih
 simp only at hi hl' hb ih
 rcases j with _ | _
 all_goals
  cbv
  cases suf with
  | nil =>
   rw [F.lt_f hi ll (by simp [hl'])]; cbv
   rw [hQ1]; cbv
   rw [hQ]; cbv
   rw [← hr, ← hb]; rfl
  | cons x suf =>
   have hpl : pre.length ≤ 1073741824 := by rw [hl'] at hll; simp at hll; omega
   rw [List.foldl_cons] at hb
   obtain ⟨ix, hix⟩ := nm (pre.length * 1)
   have p0 : at' 1 el i = some (ix, [.int .i64 x]) := by rw [hix]; exact F.get hi hel hl' (fun _ => rfl) (by decide)
   obtain ⟨d', hd'⟩ := nm (mxI d x)
   have g2 : mx d x = d' := by rw [F.mx, hd']; rfl
   rw [F.lt_t hi ll (by simp [hl'])]; cbv
   rw [p0]; cbv
   rw [g2]; cbv
   rw [← hd'] at hb
   refine ih (suf, pre ++ [x], d', add .i64 i 1, some x) ⟨at_len (F.inc hi (by omega)) (by simp), by simp [hl'], hb⟩ (by simp)
theorem ok356 (n : Int) : fix Tb md 356 [I n] = some ⟨[B (!resv n)], [], none⟩ := by
 obtain ⟨v, hv⟩ := nm (resv n)
 rw [← hv]
 generalize hr : (⟨_, [], none⟩ : Ret) = r
 refine fix_fn2 (fn := ir356) tb_356 rfl rfl (by decide) rfl ?_; intro Q hQ; simp only [shutArgs, shutS, List.map_cons, List.map_nil, ir356, List.head?_nil, reduceCtorEq, if_false, sExt, sHello, sAnswer, sEdit, sDeal, sBox, sDialed, sKnown]
 intro add sub mul arith eq ne lt le gt ge neg conv mn mx not beq len at' ln bd cut app allS isNil mks set o hP F ho
 have c1 : o 337 [I n] = some ⟨[B v], [], none⟩ := by rw [ho, hv]; exact ok337 ..
 cbv
 rw [c1]; cbv
 rw [hQ]; cbv
 rw [← hr, F.not]
theorem ok308 (l : List Ext) (hl : l.length ≤ 1073741824) (w : ∀ y ∈ l, y.body.length ≤ 1099511627776) {f0 : Fl} (h0 : inFl f0 = true) : fix Tb md 308 [R (row fExt l) f0] = some ⟨[R (row fExt (sel notRes idE l)) (.ow false)], [], none⟩ := by
 obtain ⟨et, het⟩ := nm (row fExt (sel notRes idE l))
 rw [← het]
 generalize hr : (⟨_, [], none⟩ : Ret) = r
 obtain ⟨ea, hea⟩ := nm (row fExt l)
 rw [← hea]
 refine fix_fn2 (fn := ir308) tb_308 rfl rfl (by decide) rfl ?_; intro Q hQ; simp only [shutArgs, shutS, List.map_cons, List.map_nil, ir308, shut_in h0, List.head?_nil, reduceCtorEq, if_false, sExt, sHello, sAnswer, sEdit, sDeal, sBox, sDialed, sKnown]
 intro add sub mul arith eq ne lt le gt ge neg conv mn mx not beq len at' ln bd cut app allS isNil mks set o hP F ho
 have c1 : o 264 [R ea (.sp 0 0), ⟨.val, [⟨.fn 356 [], .sh⟩]⟩] = some ⟨[R et (.ow false)], [], none⟩ := by
  rw [ho, het, hea]
  exact ok264_0 356 rfl (fun n => !resv n) l hl w (fun x _ => ok356 x.tag) rfl
 cbv
 rw [c1]; cbv
 rw [hQ]; cbv
 exact congrArg some hr
theorem ok357 (n : Int) (b : List Int) (hb : b.length ≤ 1099511627776) : fix Tb md 357 [I n, ⟨.val, [⟨.ptr () [.row () (row fI b)], .sh⟩]⟩] = some ⟨[B (hasI b n)], [], none⟩ := by
 obtain ⟨v, hv⟩ := nm (hasI b n)
 rw [← hv]
 generalize hr : (⟨_, [], none⟩ : Ret) = r
 obtain ⟨eb, heb⟩ := nm (row fI b)
 rw [← heb]
 refine fix_fn2 (fn := ir357) tb_357 rfl rfl (by decide) rfl ?_; intro Q hQ; simp only [shutArgs, shutS, List.map_cons, List.map_nil, ir357, List.head?_nil, reduceCtorEq, if_false, sExt, sHello, sAnswer, sEdit, sDeal, sBox, sDialed, sKnown]
 intro add sub mul arith eq ne lt le gt ge neg conv mn mx not beq len at' ln bd cut app allS isNil mks set o hP F ho
 have c1 : o 302 [R eb (.sp 0 0), I n] = some ⟨[B v], [], none⟩ := by rw [ho, hv, heb]; exact ok302 _ _ hb rfl
 cbv
 rw [c1]; cbv
 rw [hQ]; cbv
 exact congrArg some hr
theorem ok309 (l : List Ext) (b : List Int) (hl : l.length ≤ 1073741824) (hb' : b.length ≤ 1073741824) (w : ∀ y ∈ l, y.body.length ≤ 1099511627776) {f0 f1 : Fl} (h0 : inFl f0 = true) (h1 : inFl f1 = true) : fix Tb md 309 [R (row fExt l) f0, R (row fI b) f1] = some ⟨[R (row fExt (sel (tagIn b) idE l)) (.ow false)], [], none⟩ := by
 obtain ⟨et, het⟩ := nm (row fExt (sel (tagIn b) idE l))
 rw [← het]
 generalize hr : (⟨_, [], none⟩ : Ret) = r
 obtain ⟨ea, hea⟩ := nm (row fExt l)
 obtain ⟨eb, heb⟩ := nm (row fI b)
 rw [← hea, ← heb]
 refine fix_fn2 (fn := ir309) tb_309 rfl rfl (by decide) rfl ?_; intro Q hQ; simp only [shutArgs, shutS, List.map_cons, List.map_nil, ir309, shut_in h0, shut_in h1, List.head?_nil, reduceCtorEq, if_false, sExt, sHello, sAnswer, sEdit, sDeal, sBox, sDialed, sKnown]
 intro add sub mul arith eq ne lt le gt ge neg conv mn mx not beq len at' ln bd cut app allS isNil mks set o hP F ho
 have c1 : o 264 [R ea (.sp 0 0), ⟨.val, [⟨.fn 357 [.ptr () [.row () eb]], .sh⟩]⟩] = some ⟨[R et (.ow false)], [], none⟩ := by
  rw [ho, het, hea, heb]
  exact ok264_1 357 rfl _ (fun n => hasI b n) l hl w (fun x _ => ok357 x.tag b (by omega)) rfl
 cbv
 rw [c1]; cbv
 rw [hQ]; cbv
 exact congrArg some hr
theorem ok169r (vs tg : List Int) (h : Hello) (hv : vs.length ≤ 1073741824) (ht : tg.length ≤ 1073741824) (mh : h.Mid) {f0 f1 f2 f3 : Fl} (q0 : inFl f0 = true) (q1 : inFl f1 = true) (q2 : inFl f2 = true) (q3 : inFl f3 = true) (r : Ret)
  (rA' : caOk vs h = true → (⟨[sAnswer (caV vs tg h).version (row fExt (caV vs tg h).exts) (.ow false), B true], [], none⟩ : Ret) = r) (rC' : caOk vs h = false → (⟨[sAnswer 0 [] .nl, B false], [], none⟩ : Ret) = r) :
  fix Tb md 169 [R (row fI vs) f0, R (row fI tg) f1, sHello (row fI h.versions) (row fExt h.exts) f2 f3] = some r := by
 have mh' := mh
 unfold Hello.Mid at mh'
 have hvl := mh'.1
 have hxl := mh'.2.1
 have wh : ∀ y ∈ h.exts, y.body.length ≤ 1099511627776 := fun y hy => Nat.le_trans (show y.body.length ≤ 1073741824 from mh'.2.2 y hy) (by decide)
 obtain ⟨u, hu⟩ := nm (isHel h)
 obtain ⟨n, hn⟩ := nm (bestC vs h.versions)
 obtain ⟨K, hK⟩ := nm (sel (tagIn tg) idE h.exts)
 obtain ⟨Z, hZ⟩ := nm (sel notRes idE K)
 have hKl : K.length ≤ 1073741824 := by rw [hK]; exact Nat.le_trans sel_len hxl
 have wK : ∀ y ∈ K, y.body.length ≤ 1099511627776 := fun y hy => wh y (by rw [hK, sel_idE] at hy; exact (List.mem_filter.1 hy).1)
 have hok : caOk vs h = (u && !decide (n = 0)) := by rw [hu, hn]; rfl
 have rA : u = true → decide (n = 0) = false → (⟨[sAnswer n (row fExt Z) (.ow false), B true], [], none⟩ : Ret) = r := fun q1 q2 => by
  have hk : caOk vs h = true := by rw [hok, q1, q2]; rfl
  rw [← rA' hk, show caV vs tg h = ⟨n, Z⟩ by rw [caV, hk, if_pos rfl, hn, hZ, hK]; rfl]
 have rC : u = false ∨ decide (n = 0) = true → (⟨[sAnswer 0 [] .nl, B false], [], none⟩ : Ret) = r := fun q => rC' (by rcases q with q | q <;> rw [hok, q] <;> simp)
 clear rA' rC' hok
 obtain ⟨ev, hev⟩ := nm (row fI vs)
 obtain ⟨et, het⟩ := nm (row fI tg)
 obtain ⟨dv, hdv⟩ := nm (row fI h.versions)
 obtain ⟨dx, hdx⟩ := nm (row fExt h.exts)
 rw [← hev, ← het, ← hdv, ← hdx]
 obtain ⟨ek, hek⟩ := nm (row fExt K)
 obtain ⟨ez, hez⟩ := nm (row fExt Z)
 rw [← hez] at rA
 refine fix_fn2 (fn := ir169) tb_169 rfl rfl (by decide) rfl ?_; intro Q hQ; simp only [shutArgs, shutS, List.map_cons, List.map_nil, ir169, shut_in q0, shut_in q1, shut_in q2, shut_in q3, List.head?_nil, reduceCtorEq, if_false, sExt, sHello, sAnswer, sEdit, sDeal, sBox, sDialed, sKnown]
 intro add sub mul arith eq ne lt le gt ge neg conv mn mx not beq len at' ln bd cut app allS isNil mks set o hP F ho
 have c1 : o 111 [R ev (.sp 0 0), R dv (.sp 1 0)] = some ⟨[I n], [], none⟩ := by rw [ho, hn, hev, hdv]; exact ok111 _ _ hv hvl rfl rfl
 have c2 : o 113 [sHello dv dx (.sp 0 0) (.sp 0 1)] = some ⟨[B u], [], none⟩ := by rw [ho, hu, hdv, hdx]; exact ok113 _ (by omega) (by omega) wh rfl rfl
 have c3 : o 309 [R dx (.sp 0 0), R et (.sp 1 0)] = some ⟨[R ek (.ow false)], [], none⟩ := by rw [ho, hek, hK, hdx, het]; exact ok309 _ _ hxl ht wh rfl rfl
 have c4 : o 308 [R ek (.sp 0 0)] = some ⟨[R ez (.ow false)], [], none⟩ := by rw [ho, hez, hZ, hek]; exact ok308 _ hKl wK rfl
 have g1 : eq n 0 = decide (n = 0) := F.eq ..
 cbv
 rw [c1]; cbv
 rw [c2]; cbv
 refine both (fun d1 => ?_) (fun d1 => ?_) <;> rw [d1] <;> cbv
 ·rw [hQ]; cbv
  exact congrArg some (rC (.inl (F.not_t d1)))
 refine both (fun d2 => ?_) (fun d2 => ?_) <;> rw [d2] <;> cbv
 ·rw [hQ]; cbv
  exact congrArg some (rC (.inr (by rw [← g1, d2])))
 rw [c3]; cbv
 rw [c4]; cbv
 rw [hQ]; cbv
 exact congrArg some (rA (F.not_f d1) (by rw [← g1, d2]))
theorem ok169a (vs tg : List Int) (h : Hello) (hv : vs.length ≤ 1073741824) (ht : tg.length ≤ 1073741824) (mh : h.Mid) {f0 f1 f2 f3 : Fl} (q0 : inFl f0 = true) (q1 : inFl f1 = true) (q2 : inFl f2 = true) (q3 : inFl f3 = true) (q : caOk vs h = true) :
  fix Tb md 169 [R (row fI vs) f0, R (row fI tg) f1, sHello (row fI h.versions) (row fExt h.exts) f2 f3] = some ⟨[sAnswer (caV vs tg h).version (row fExt (caV vs tg h).exts) (.ow false), B true], [], none⟩ :=
 ok169r vs tg h hv ht mh q0 q1 q2 q3 _ (fun _ => rfl) (fun e => by rw [q] at e; cases e)
theorem ok169b (vs tg : List Int) (h : Hello) (hv : vs.length ≤ 1073741824) (ht : tg.length ≤ 1073741824) (mh : h.Mid) {f0 f1 f2 f3 : Fl} (q0 : inFl f0 = true) (q1 : inFl f1 = true) (q2 : inFl f2 = true) (q3 : inFl f3 = true) (q : caOk vs h = false) :
  fix Tb md 169 [R (row fI vs) f0, R (row fI tg) f1, sHello (row fI h.versions) (row fExt h.exts) f2 f3] = some ⟨[sAnswer 0 [] .nl, B false], [], none⟩ :=
 ok169r vs tg h hv ht mh q0 q1 q2 q3 _ (fun e => by rw [q] at e; cases e) (fun _ => rfl)
theorem ok169 (vs tg : List Int) (h : Hello) (hv : vs.length ≤ 1073741824) (ht : tg.length ≤ 1073741824) (mh : h.Mid) {f0 f1 f2 f3 : Fl} (q0 : inFl f0 = true) (q1 : inFl f1 = true) (q2 : inFl f2 = true) (q3 : inFl f3 = true) :
  fix Tb md 169 [R (row fI vs) f0, R (row fI tg) f1, sHello (row fI h.versions) (row fExt h.exts) f2 f3] = some ⟨[sAnswer (caV vs tg h).version (row fExt (caV vs tg h).exts) (.ow false), B (caOk vs h)], [], none⟩ ∨
  ((caV vs tg h).exts = [] ∧ fix Tb md 169 [R (row fI vs) f0, R (row fI tg) f1, sHello (row fI h.versions) (row fExt h.exts) f2 f3] = some ⟨[sAnswer (caV vs tg h).version [] .nl, B (caOk vs h)], [], none⟩) := by
 cases q : caOk vs h with
 | true => exact .inl (ok169a vs tg h hv ht mh q0 q1 q2 q3 q)
 | false =>
  rw [show caV vs tg h = ⟨0, []⟩ by rw [caV, q]; rfl]
  exact .inr ⟨rfl, ok169b vs tg h hv ht mh q0 q1 q2 q3 q⟩
theorem ok163a (h : Hello) (mh : h.Mid) {f0 f1 : Fl} (q0 : inFl f0 = true) (q1 : inFl f1 = true) (q : isHel h = true) : fix Tb md 163 [sHello (row fI h.versions) (row fExt h.exts) f0 f1] = some ⟨[R (row fI (helB h)) (.ow false)], [], none⟩ := by
 rcases ok163 h mh q0 q1 with k | ⟨k, _⟩
 ·exact k
 ·unfold helB at k; rw [q] at k; simp at k
theorem ok152a (a : Answer) (hl : a.exts.length ≤ 1099511627776) (w : ∀ y ∈ a.exts, y.body.length ≤ 1099511627776) {f0 : Fl} (h0 : inFl f0 = true) (q : isAns a.version a.exts = true) : fix Tb md 152 [sAnswer a.version (row fExt a.exts) f0] = some ⟨[R (row fI (ansB a)) (.ow false)], [], none⟩ := by
 rcases ok152 a hl w h0 with k | ⟨k, _⟩
 ·exact k
 ·exact absurd k (ansB_ne q)
theorem ok254r (h seen : Hello) (vs tg : List Int) (k : Int) (es : List Edit) (mh : h.Mid) (ms : seen.Mid) (hv : vs.length ≤ 1073741824) (ht : tg.length ≤ 1073741824) (he : es.length ≤ 1073741824) {f0 f1 f2 f3 f4 f5 f6 : Fl} (q0 : inFl f0 = true) (q1 : inFl f1 = true) (q2 : inFl f2 = true) (q3 : inFl f3 = true) (q4 : inFl f4 = true) (q5 : inFl f5 = true) (q6 : inFl f6 = true) (r : Ret)
  (rA : dlOk h seen vs tg k es = true → (⟨[sDeal true (dlG vs tg seen es).version (row fI (tags (dlG vs tg seen es).exts)) (.ow false)], [], none⟩ : Ret) = r) (rC : dlOk h seen vs tg k es = false → (⟨[sDeal false 0 [] .nl], [], none⟩ : Ret) = r) :
  fix Tb md 254 [sHello (row fI h.versions) (row fExt h.exts) f0 f1, sHello (row fI seen.versions) (row fExt seen.exts) f2 f3, R (row fI vs) f4, R (row fI tg) f5, I k, R (row fEdit es) f6] = some r := by
 cases hca : caOk vs seen with
 | false =>
  have hok : dlOk h seen vs tg k es = false := by unfold dlOk; rw [hca]; rfl
  replace rC := rC hok
  clear rA
  have k1 := ok169b vs tg seen hv ht ms (f0 := .sp 0 0) (f1 := .sp 1 0) (f2 := .sp 2 0) (f3 := .sp 2 1) rfl rfl rfl rfl hca
  obtain ⟨ev, hev⟩ := nm (row fI vs)
  obtain ⟨et, het⟩ := nm (row fI tg)
  obtain ⟨dv, hdv⟩ := nm (row fI h.versions)
  obtain ⟨dx, hdx⟩ := nm (row fExt h.exts)
  obtain ⟨sv, hsv⟩ := nm (row fI seen.versions)
  obtain ⟨sx, hsx⟩ := nm (row fExt seen.exts)
  obtain ⟨ee, hee⟩ := nm (row fEdit es)
  rw [← hev, ← het, ← hsv, ← hsx] at k1
  rw [← hev, ← het, ← hdv, ← hdx, ← hsv, ← hsx, ← hee]
  refine fix_fn2 (fn := ir254) tb_254 rfl rfl (by decide) rfl ?_; intro Q hQ; simp only [shutArgs, shutS, List.map_cons, List.map_nil, ir254, shut_in q0, shut_in q1, shut_in q2, shut_in q3, shut_in q4, shut_in q5, shut_in q6, List.head?_nil, reduceCtorEq, if_false, sExt, sHello, sAnswer, sEdit, sDeal, sBox, sDialed, sKnown]
  intro add sub mul arith eq ne lt le gt ge neg conv mn mx not beq len at' ln bd cut app allS isNil mks set o hP F ho
  rw [← ho] at k1
  cbv
  rw [k1]; cbv
  rw [show not false = true by rw [F.not]; rfl]; cbv
  rw [hQ]; cbv
  exact congrArg some rC
 | true =>
  obtain ⟨S, hS⟩ := nm (caV vs tg seen)
  obtain ⟨G, hG⟩ := nm (dlG vs tg seen es)
  have hGS : es.foldl editA S = G := by rw [hS, hG]; rfl
  have mS : S.Mid := by rw [hS]; exact caV_mid ms
  have mG : G.Mid := by rw [← hGS]; exact dlG_mid es mS
  have aS : isAns S.version S.exts = true := by rw [hS]; exact caV_ans hca
  have iS := caOk_hel hca
  have k1 := ok169a vs tg seen hv ht ms (f0 := .sp 0 0) (f1 := .sp 1 0) (f2 := .sp 2 0) (f3 := .sp 2 1) rfl rfl rfl rfl hca
  rw [← hS] at k1
  obtain ⟨fin, hfin⟩ := nm (dlF k vs tg seen)
  obtain ⟨u, hu⟩ := nm (fitsV h G)
  obtain ⟨v, hv_⟩ := nm (chkV k [helB h, ansB G] 1 fin)
  have hok : dlOk h seen vs tg k es = (u && v) := by unfold dlOk; rw [hca, Bool.true_and, ← hG, ← hfin, ← hu, ← hv_]
  rw [hok] at rA rC
  rw [← hG] at rA
  have wS : ∀ y ∈ S.exts, y.body.length ≤ 1099511627776 := fun y hy => Nat.le_trans (show y.body.length ≤ 1073741824 from mS.2 y hy) (by decide)
  have wG : ∀ y ∈ G.exts, y.body.length ≤ 1099511627776 := fun y hy => Nat.le_trans (show y.body.length ≤ 1073741824 from mG.2 y hy) (by decide)
  have lS : S.exts.length ≤ 1073741824 := mS.1
  have lG : G.exts.length ≤ 1073741824 := mG.1
  have bS : (ansB S).length ≤ 48 := Nat.le_trans (ansB_len S) (by decide)
  have bG : (ansB G).length ≤ 48 := Nat.le_trans (ansB_len G) (by decide)
  have k2 := ok163a seen ms (f0 := .sp 0 0) (f1 := .sp 0 1) rfl rfl iS
  have k3 := ok152a S (by omega) wS (f0 := .sp 0 1) rfl aS
  have k4 := ok144 k [helB seen, ansB S] 1 (two_w (helB_small seen) bS) (f0 := .sp 1 0) rfl
  rw [show finV k [helB seen, ansB S] 1 = fin by rw [hfin, hS]; rfl] at k4
  have k5 := ok161 h G mh mG (f0 := .sp 0 0) (f1 := .sp 0 1) (f2 := .sp 1 1) rfl rfl rfl
  rw [← hu] at k5
  have k6 := fun q : u = true => ok163a h mh (f0 := .sp 0 0) (f1 := .sp 0 1) rfl rfl (fits_parts (hu ▸ q)).1
  have k7 := fun q : u = true => ok152a G (by omega) wG (f0 := .sp 0 1) rfl (fits_parts (hu ▸ q)).2
  have k8 := ok146 k [helB h, ansB G] 1 fin (two_w (helB_small h) bG) (f0 := .sp 1 0) rfl
  rw [← hv_] at k8
  have k9 := ok179 G.exts (by omega) (f0 := .sp 0 0) rfl
  rw [show sel yesE Ext.tag G.exts = tags G.exts from rfl] at k9
  obtain ⟨ev, hev⟩ := nm (row fI vs)
  obtain ⟨et, het⟩ := nm (row fI tg)
  obtain ⟨dv, hdv⟩ := nm (row fI h.versions)
  obtain ⟨dx, hdx⟩ := nm (row fExt h.exts)
  obtain ⟨sv, hsv⟩ := nm (row fI seen.versions)
  obtain ⟨sx, hsx⟩ := nm (row fExt seen.exts)
  obtain ⟨ee, hee⟩ := nm (row fEdit es)
  obtain ⟨eS, heS⟩ := nm (row fExt S.exts)
  obtain ⟨eG, heG⟩ := nm (row fExt G.exts)
  obtain ⟨eT, heT⟩ := nm (row fI (tags G.exts))
  obtain ⟨b1, hb1⟩ := nm (row fI (helB seen))
  obtain ⟨b2, hb2⟩ := nm (row fI (ansB S))
  obtain ⟨b3, hb3⟩ := nm (row fI (helB h))
  obtain ⟨b4, hb4⟩ := nm (row fI (ansB G))
  rw [← hev, ← het, ← hsv, ← hsx, ← heS] at k1
  rw [← hsv, ← hsx, ← hb1] at k2
  rw [← heS, ← hb2] at k3
  simp only [row, fR, List.map_cons, List.map_nil] at k4 k8
  rw [show List.map fI (helB seen) = b1 from hb1.symm, show List.map fI (ansB S) = b2 from hb2.symm] at k4
  rw [show List.map fI (helB h) = b3 from hb3.symm, show List.map fI (ansB G) = b4 from hb4.symm] at k8
  rw [← hdv, ← hdx, ← heG] at k5
  rw [← hdv, ← hdx, ← hb3] at k6
  rw [← heG, ← hb4] at k7
  rw [← heG, ← heT] at k9
  rw [← heT] at rA
  rw [← hev, ← het, ← hdv, ← hdx, ← hsv, ← hsx, ← hee]
  refine fix_fn2 (fn := ir254) tb_254 rfl rfl (by decide) rfl ?_; intro Q hQ; simp only [shutArgs, shutS, List.map_cons, List.map_nil, ir254, shut_in q0, shut_in q1, shut_in q2, shut_in q3, shut_in q4, shut_in q5, shut_in q6, List.head?_nil, reduceCtorEq, if_false, sExt, sHello, sAnswer, sEdit, sDeal, sBox, sDialed, sKnown]
  intro add sub mul arith eq ne lt le gt ge neg conv mn mx not beq len at' ln bd cut app allS isNil mks set o hP F ho
  have le := F.len_at hee
  rw [← ho] at k1 k2 k3 k4 k5 k6 k7 k8 k9
  cbv
  rw [k1]; cbv
  rw [show not true = false by rw [F.not]; rfl]; cbv
  refine loop_ind2 hP (σ := List Edit × List Edit × Answer × Int × List (List V) × Int × Option (Int × Int)) (fun s => match s.2.2.2.2.2.2 with
   | none => [(0, sHello dv dx .sh .sh), (1, sHello sv sx .sh .sh), (2, R ev .sh), (3, R et .sh), (4, I k), (5, R ee .sh), (6, ⟨.ptr 75 0, []⟩), (7, ⟨.ptr 76 0, []⟩), (12, ⟨.ptr 81 0, []⟩), (13, ⟨.ptr 82 0, []⟩), (14, B true), (15, ⟨.ptr 84 0, []⟩), (30, R ee .sh), (31, I (len ee)), (32, I s.2.2.2.2.2.1), (75, ⟨.box (), [⟨.row () dv, .sh⟩, ⟨.row () dx, .sh⟩]⟩), (76, ⟨.box (), [⟨.row () sv, .sh⟩, ⟨.row () sx, .sh⟩]⟩), (81, ⟨.box (), [⟨.bool false, .sc⟩, ⟨.int .i64 0, .sc⟩, ⟨.row () [], .nl⟩]⟩), (82, ⟨.box (), [⟨.int .i64 S.version, .sc⟩, ⟨.row () eS, .fr⟩]⟩), (84, ⟨.box (), [⟨.int .i64 s.2.2.2.1, .sc⟩, ⟨.row () s.2.2.2.2.1, .ow false⟩]⟩)]
   | some j => [(0, sHello dv dx .sh .sh), (1, sHello sv sx .sh .sh), (2, R ev .sh), (3, R et .sh), (4, I k), (5, R ee .sh), (6, ⟨.ptr 75 0, []⟩), (7, ⟨.ptr 76 0, []⟩), (12, ⟨.ptr 81 0, []⟩), (13, ⟨.ptr 82 0, []⟩), (14, B true), (15, ⟨.ptr 84 0, []⟩), (17, ⟨.ptr 86 0, []⟩), (30, R ee .sh), (31, I (len ee)), (32, I s.2.2.2.2.2.1), (75, ⟨.box (), [⟨.row () dv, .sh⟩, ⟨.row () dx, .sh⟩]⟩), (76, ⟨.box (), [⟨.row () sv, .sh⟩, ⟨.row () sx, .sh⟩]⟩), (81, ⟨.box (), [⟨.bool false, .sc⟩, ⟨.int .i64 0, .sc⟩, ⟨.row () [], .nl⟩]⟩), (82, ⟨.box (), [⟨.int .i64 S.version, .sc⟩, ⟨.row () eS, .fr⟩]⟩), (84, ⟨.box (), [⟨.int .i64 s.2.2.2.1, .sc⟩, ⟨.row () s.2.2.2.2.1, .ow false⟩]⟩), (86, ⟨.box (), [⟨.int .i64 j.1, .sc⟩, ⟨.int .i64 j.2, .sc⟩]⟩)]) (fun s => At s.2.2.2.2.2.1 s.2.1.length ∧ es = s.2.1 ++ s.1 ∧ s.1.foldl editA s.2.2.1 = G ∧ s.2.2.1.Mid ∧ s.2.2.2.1 = s.2.2.1.version ∧ s.2.2.2.2.1 = row fExt s.2.2.1.exts) (fun s => s.1.length) (es, [], S, S.version, eS, 0, none) rfl ⟨rfl, rfl, hGS, mS, rfl, heS⟩ ?_
  intro c9 Q1 hc9 hQ1
  rintro ⟨suf, pre, a, ver, ex, i, j⟩ ⟨hi, hl', hb, ma, hver, hex⟩ ih
  simp only at hi hl' hb ma hver hex ih
  rcases j with _ | ⟨j1, j2⟩
  all_goals
   cbv
   cases suf with
   | nil =>
    have hpp : es = pre := by rw [hl', List.append_nil]
    have haG : a = G := hb
    rw [haG] at hver hex
    rw [← heG] at hex
    rw [F.lt_f hi le (by simp [hl'])]; cbv
    rw [hQ1]; cbv
    rw [hver, hex]
    rw [k2]; cbv
    rw [k3]; cbv
    rw [k4]; cbv
    rw [k5]; cbv
    refine both (fun d1 => ?_) (fun d1 => ?_) <;> rw [d1] <;> cbv
    ·rw [hQ]; cbv
     exact congrArg some (rC (by rw [F.not_t d1]; rfl))
    have hu1 := F.not_f d1
    rw [k6 hu1]; cbv
    rw [k7 hu1]; cbv
    rw [k8]; cbv
    refine both (fun d2 => ?_) (fun d2 => ?_) <;> rw [d2] <;> cbv
    ·rw [hQ]; cbv
     exact congrArg some (rC (by rw [hu1, F.not_t d2]; rfl))
    rw [k9]; cbv
    rw [hQ]; cbv
    exact congrArg some (rA (by rw [hu1, F.not_f d2]; rfl))
   | cons x suf =>
    rw [List.foldl_cons] at hb
    have hpl : pre.length ≤ 1073741824 := by rw [hl'] at he; simp at he; omega
    obtain ⟨ix, hix⟩ := nm (pre.length * 2)
    have p0 : at' 2 ee i = some (ix, [.int .i64 x.kind, .int .i64 x.n]) := by rw [hix]; exact F.get hi hee hl' (fun _ => rfl) (by decide)
    obtain ⟨a', ha'⟩ := nm (editA a x)
    have ma' : a'.Mid := by rw [ha']; exact editA_mid ma
    have la := ma.1
    have k0 := ok119 a x la (fun y hy => Nat.le_trans (show y.body.length ≤ 1073741824 from ma.2 y hy) (by decide)) (f0 := .sp 0 1) rfl
    rw [← ha'] at k0 hb
    obtain ⟨ver', hver'⟩ := nm (a'.version)
    obtain ⟨ex', hex'⟩ := nm (row fExt a'.exts)
    rw [← hver', ← hex', ← hver, ← hex, ← ho] at k0
    rw [F.lt_t hi le (by simp [hl'])]; cbv
    rw [p0]; cbv
    rw [k0]; cbv
    exact ih (suf, pre ++ [x], a', ver', ex', add .i64 i 1, some (x.kind, x.n)) ⟨at_len (F.inc hi (by omega)) (by simp), by rw [hl']; simp, hb, ma', hver', hex'⟩ (by simp)
theorem ok211r (h : Hello) (path : List Box) (vs tg : List Int) (k : Int) (mh : h.Mid) (pl : path.length ≤ 1073741824) (pm : ∀ y ∈ path, y.Mid) (hv : vs.length ≤ 1073741824) (ht : tg.length ≤ 1073741824) {f0 f1 f2 f3 f4 : Fl} (q0 : inFl f0 = true) (q1 : inFl f1 = true) (q2 : inFl f2 = true) (q3 : inFl f3 = true) (q4 : inFl f4 = true) (r : Ret)
  (rA : doOk h path vs tg k = true → (⟨[sDeal true (caV vs tg (ppV path h)).version (row fI (tags (caV vs tg (ppV path h)).exts)) (.ow false)], [], none⟩ : Ret) = r) (rC : doOk h path vs tg k = false → (⟨[sDeal false 0 [] .nl], [], none⟩ : Ret) = r) :
  fix Tb md 211 [sHello (row fI h.versions) (row fExt h.exts) f0 f1, R (row fBox path) f2, R (row fI vs) f3, R (row fI tg) f4, I k] = some r := by
 obtain ⟨fv, gv, hf, k1⟩ := HF.of2 (P := fun vv xx f g => fix Tb md 182 [R (row fBox path) (.sp 0 0), sHello (row fI h.versions) (row fExt h.exts) (.sp 1 0) (.sp 1 1)] = some ⟨[sHello vv xx f g, B (ppOk path h)], [], none⟩) (ok182 path h pl pm mh (f0 := .sp 0 0) (f1 := .sp 1 0) (f2 := .sp 1 1) rfl rfl rfl)
 obtain ⟨seen, hseen⟩ := nm (ppV path h)
 have ms : seen.Mid := by rw [hseen]; exact ppV_mid mh
 obtain ⟨w, hw⟩ := nm (ppOk path h)
 have hok : doOk h path vs tg k = (w && dlOk h seen vs tg k []) := by rw [hw, hseen]; rfl
 rw [hok] at rA rC
 rw [← hseen] at rA
 rw [← hw, ← hseen] at k1
 clear hok
 obtain ⟨x, hx⟩ : ∃ x : SU, (dlOk h seen vs tg k [] = true → sDeal true (caV vs tg seen).version (row fI (tags (caV vs tg seen).exts)) (.ow false) = x) ∧ (dlOk h seen vs tg k [] = false → sDeal false 0 [] .nl = x) := by
  cases q : dlOk h seen vs tg k [] with
  | true => exact ⟨_, fun _ => rfl, fun e => by cases e⟩
  | false => exact ⟨_, fun e => (by cases e), fun _ => rfl⟩
 have k2 := fun (a b : Fl) (qa : inFl a = true) (qb : inFl b = true) => ok254r h seen vs tg k [] mh ms hv ht (by simp) (f0 := .sp 0 0) (f1 := .sp 0 1) (f2 := a) (f3 := b) (f4 := .sp 2 0) (f5 := .sp 3 0) (f6 := .nl) rfl rfl qa qb rfl rfl rfl ⟨[x], [], none⟩ (fun e => by rw [← hx.1 e]; rfl) (fun e => by rw [← hx.2 e])
 cases hd : dlOk h seen vs tg k [] with
 | true =>
  rw [← hx.1 hd] at k2
  rw [hd, Bool.and_true] at rA rC
  clear hx
  obtain ⟨ev, hev⟩ := nm (row fI vs)
  obtain ⟨et, het⟩ := nm (row fI tg)
  obtain ⟨dv, hdv⟩ := nm (row fI h.versions)
  obtain ⟨dx, hdx⟩ := nm (row fExt h.exts)
  obtain ⟨sv, hsv⟩ := nm (row fI seen.versions)
  obtain ⟨sx, hsx⟩ := nm (row fExt seen.exts)
  obtain ⟨ep, hep⟩ := nm (row fBox path)
  obtain ⟨ex, hex⟩ := nm (row fI (tags (caV vs tg seen).exts))
  obtain ⟨ve, hve⟩ := nm ((caV vs tg seen).version)
  rw [← hex, ← hve] at k2 rA
  rw [← hep, ← hdv, ← hdx, ← hsv, ← hsx] at k1
  rw [← hev, ← het, ← hdv, ← hdx, ← hsv, ← hsx, show row fEdit ([] : List Edit) = [] from rfl] at k2
  rw [← hev, ← het, ← hdv, ← hdx, ← hep]
  have k2' := k2 (inA fv 1 0) (inA gv 1 1) (hf.inl 1 0) (hf.inr 1 1)
  replace hf := HF.fl hf
  rcases hf with ⟨rfl, rfl⟩ | ⟨rfl, rfl⟩ | ⟨rfl, rfl⟩
  all_goals
   simp only [inA] at k2'
   refine fix_fn2 (fn := ir211) tb_211 rfl rfl (by decide) rfl ?_; intro Q hQ; simp only [shutArgs, shutS, List.map_cons, List.map_nil, ir211, shut_in q0, shut_in q1, shut_in q2, shut_in q3, shut_in q4, List.head?_nil, reduceCtorEq, if_false, sExt, sHello, sAnswer, sEdit, sDeal, sBox, sDialed, sKnown]
   intro add sub mul arith eq ne lt le gt ge neg conv mn mx not beq len at' ln bd cut app allS isNil mks set o hP F ho
   rw [← ho] at k1 k2'
   cbv
   rw [k1]; cbv
   refine both (fun d1 => ?_) (fun d1 => ?_) <;> rw [d1] <;> cbv
   ·rw [hQ]; cbv
    exact congrArg some (rC (F.not_t d1))
   rw [k2']; cbv
   rw [hQ]; cbv
   exact congrArg some (rA (F.not_f d1))
 | false =>
  rw [← hx.2 hd] at k2
  rw [hd, Bool.and_false] at rA rC
  clear hx
  obtain ⟨ev, hev⟩ := nm (row fI vs)
  obtain ⟨et, het⟩ := nm (row fI tg)
  obtain ⟨dv, hdv⟩ := nm (row fI h.versions)
  obtain ⟨dx, hdx⟩ := nm (row fExt h.exts)
  obtain ⟨sv, hsv⟩ := nm (row fI seen.versions)
  obtain ⟨sx, hsx⟩ := nm (row fExt seen.exts)
  obtain ⟨ep, hep⟩ := nm (row fBox path)
  rw [← hep, ← hdv, ← hdx, ← hsv, ← hsx] at k1
  rw [← hev, ← het, ← hdv, ← hdx, ← hsv, ← hsx, show row fEdit ([] : List Edit) = [] from rfl] at k2
  rw [← hev, ← het, ← hdv, ← hdx, ← hep]
  have k2' := k2 (inA fv 1 0) (inA gv 1 1) (hf.inl 1 0) (hf.inr 1 1)
  replace hf := HF.fl hf
  rcases hf with ⟨rfl, rfl⟩ | ⟨rfl, rfl⟩ | ⟨rfl, rfl⟩
  all_goals
   simp only [inA] at k2'
   refine fix_fn2 (fn := ir211) tb_211 rfl rfl (by decide) rfl ?_; intro Q hQ; simp only [shutArgs, shutS, List.map_cons, List.map_nil, ir211, shut_in q0, shut_in q1, shut_in q2, shut_in q3, shut_in q4, List.head?_nil, reduceCtorEq, if_false, sExt, sHello, sAnswer, sEdit, sDeal, sBox, sDialed, sKnown]
   intro add sub mul arith eq ne lt le gt ge neg conv mn mx not beq len at' ln bd cut app allS isNil mks set o hP F ho
   rw [← ho] at k1 k2'
   cbv
   rw [k1]; cbv
   refine both (fun d1 => ?_) (fun d1 => ?_) <;> rw [d1] <;> cbv
   ·rw [hQ]; cbv
    exact congrArg some (rC rfl)
   rw [k2']; cbv
   rw [hQ]; cbv
   exact congrArg some (rC rfl)
theorem ok211f (h : Hello) (path : List Box) (vs tg : List Int) (k : Int) (mh : h.Mid) (pl : path.length ≤ 1073741824) (pm : ∀ y ∈ path, y.Mid) (hv : vs.length ≤ 1073741824) (ht : tg.length ≤ 1073741824) {f0 f1 f2 f3 f4 : Fl} (q0 : inFl f0 = true) (q1 : inFl f1 = true) (q2 : inFl f2 = true) (q3 : inFl f3 = true) (q4 : inFl f4 = true) :
  fix Tb md 211 [sHello (row fI h.versions) (row fExt h.exts) f0 f1, R (row fBox path) f2, R (row fI vs) f3, R (row fI tg) f4, I k] = some ⟨[sDeal (doV h path vs tg k).ok (doV h path vs tg k).version (row fI (doV h path vs tg k).tags) (tF (doOk h path vs tg k))], [], none⟩ := by
 cases q : doOk h path vs tg k with
 | true =>
  refine ok211r h path vs tg k mh pl pm hv ht q0 q1 q2 q3 q4 _ (fun _ => ?_) (fun e => by rw [q] at e; cases e)
  rw [doV, q]; rfl
 | false =>
  rw [show doV h path vs tg k = ⟨false, 0, []⟩ by rw [doV, q]; rfl]
  exact ok211r h path vs tg k mh pl pm hv ht q0 q1 q2 q3 q4 _ (fun e => by rw [q] at e; cases e) (fun _ => rfl)
theorem doV_tags {h : Hello} {path : List Box} {vs tg : List Int} {k : Int} (q : doOk h path vs tg k = false) : (doV h path vs tg k).tags = [] := by unfold doV; rw [q]; rfl
end Go.Vm
