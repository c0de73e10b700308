/- What the functions answer. -/
import Derived.Test.YtokkeikhghanpaaGATab
import Derived.Test.YtokkeikhghanpaaGAFB
set_option maxHeartbeats 4000000
set_option maxRecDepth 10000
set_option linter.unusedVariables false
set_option linter.unusedSimpArgs false
namespace Go.Vm
def yesE (_ : Ext) : Bool := true
theorem ok280 (l : List Ext) (hl : l.length ≤ 1073741824) {f0 : Fl} (h0 : inFl f0 = true) : fix Tb md 280 [R (row fExt l) f0] = some ⟨[R (row fI (sel yesE Ext.tag l)) (.ow false)], [], none⟩ := by
 obtain ⟨et, het⟩ := nm (row fI (sel yesE Ext.tag l))
 rw [← het]
 generalize hr : (⟨_, [], none⟩ : Ret) = r
 obtain ⟨ea, hea⟩ := nm (row fExt l)
 rw [← hea]
 refine fix_fn2 (fn := ir280) tb_280 rfl rfl (by decide) rfl ?_; intro Q hQ; simp only [shutArgs, shutS, List.map_cons, List.map_nil, ir280, shut_in h0, List.head?_nil, reduceCtorEq, if_false, sExt, sHello, sAnswer, sEdit, sDeal, sBox, sDialed, sKnown]
 intro add sub mul arith eq ne lt le gt ge neg conv mn mx not beq len at' ln bd cut app allS isNil mks set o hP F ho
 have la := F.len_at hea
 cbv
 refine loop_ind2 hP (σ := List Ext × List Ext × List (List V) × Int) (fun s => [(0, R ea .sh), (2, R [] .nl), (3, R s.2.2.1 (.ow false)), (4, I s.2.2.2)]) (fun s => At s.2.2.2 s.2.1.length ∧ l = s.2.1 ++ s.1 ∧ s.2.2.1 = row fI (sel yesE Ext.tag s.2.1)) (fun s => s.1.length) (l, [], [], 0) rfl ⟨rfl, rfl, rfl⟩ ?_
 intro c1 Q1 hc1 hQ1
 rintro ⟨suf, pre, eo, i⟩ ⟨hi, hl', hb⟩ ih
 simp only at hi hl' hb ih
 cbv
 cases suf with
 | nil =>
  rw [F.lt_f hi la (by simp [hl'])]; cbv
  rw [hQ1]; cbv
  rw [hQ]; cbv
  rw [← hr, het, hb, hl', List.append_nil]
 | cons x suf =>
  obtain ⟨ix, hix⟩ := nm (pre.length * 2)
  have hpre : pre.length ≤ 1073741824 := by rw [hl'] at hl; simp at hl; omega
  have hs : (sel yesE Ext.tag pre).length ≤ pre.length := sel_len
  have hi' : At (add .i64 i 1) (pre ++ [x]).length := at_len (F.inc hi (by omega)) (by simp)
  have hl2 : l = (pre ++ [x]) ++ suf := by rw [hl']; simp
  have hmem : x ∈ l := by rw [hl']; simp
  obtain ⟨e1, he1⟩ := nm (row fI x.body)
  have p0 : at' 2 ea i = some (ix, [.int .i64 x.tag, .row () e1]) := by rw [hix, he1]; exact F.get hi hea hl' (fun _ => rfl) (by decide)
  rw [F.lt_t hi la (by simp [hl'])]; cbv
  rw [p0]; cbv
  rw [show allS [[.int .i64 x.tag]] = true by rw [F.allS]; rfl]; cbv
  obtain ⟨eo', heo'⟩ := nm (row fI (sel yesE Ext.tag pre ++ [Ext.tag x]))
  rw [show app 1 eo [[.int .i64 x.tag]] = some eo' by rw [heo']; exact F.push hb (fun _ => rfl) rfl (by omega)]; cbv
  refine ih (suf, pre ++ [x], eo', add .i64 i 1) ⟨hi', hl2, by simp only; rw [heo', sel_t rfl]⟩ (by simp)
def tagIn (b : List Int) (e : Ext) : Bool := hasI b e.tag
theorem ok307 (l : List Ext) (b : List Int) (hl : l.length ≤ 1073741824) (hb' : b.length ≤ 1073741824) (w : ∀ y ∈ l, y.body.length ≤ 1099511627776) {f0 f1 : Fl} (h0 : inFl f0 = true) (h1 : inFl f1 = true) : fix Tb md 307 [R (row fExt l) f0, R (row fI b) f1] = some ⟨[R (row fExt (sel (tagIn b) idE l)) (.ow false)], [], none⟩ := by
 obtain ⟨et, het⟩ := nm (row fExt (sel (tagIn b) idE l))
 rw [← het]
 generalize hr : (⟨_, [], none⟩ : Ret) = r
 obtain ⟨ea, hea⟩ := nm (row fExt l)
 obtain ⟨eb, heb⟩ := nm (row fI b)
 rw [← hea, ← heb]
 refine fix_fn2 (fn := ir307) tb_307 rfl rfl (by decide) rfl ?_; intro Q hQ; simp only [shutArgs, shutS, List.map_cons, List.map_nil, ir307, shut_in h0, shut_in h1, List.head?_nil, reduceCtorEq, if_false, sExt, sHello, sAnswer, sEdit, sDeal, sBox, sDialed, sKnown]
 intro add sub mul arith eq ne lt le gt ge neg conv mn mx not beq len at' ln bd cut app allS isNil mks set o hP F ho
 have la := F.len_at hea
 cbv
 refine loop_ind2 hP (σ := List Ext × List Ext × List (List V) × Int) (fun s => [(0, R ea .sh), (1, R eb .sh), (4, R [] .nl), (5, R s.2.2.1 (.ow false)), (6, I s.2.2.2)]) (fun s => At s.2.2.2 s.2.1.length ∧ l = s.2.1 ++ s.1 ∧ s.2.2.1 = row fExt (sel (tagIn b) idE s.2.1)) (fun s => s.1.length) (l, [], [], 0) rfl ⟨rfl, rfl, rfl⟩ ?_
 intro c1 Q1 hc1 hQ1
 rintro ⟨suf, pre, eo, i⟩ ⟨hi, hl', hb⟩ ih
 simp only at hi hl' hb ih
 cbv
 cases suf with
 | nil =>
  rw [F.lt_f hi la (by simp [hl'])]; cbv
  rw [hQ1]; cbv
  rw [hQ]; cbv
  rw [← hr, het, hb, hl', List.append_nil]
 | cons x suf =>
  obtain ⟨ix, hix⟩ := nm (pre.length * 2)
  have hpre : pre.length ≤ 1073741824 := by rw [hl'] at hl; simp at hl; omega
  have hs : (sel (tagIn b) idE pre).length ≤ pre.length := sel_len
  have hi' : At (add .i64 i 1) (pre ++ [x]).length := at_len (F.inc hi (by omega)) (by simp)
  have hl2 : l = (pre ++ [x]) ++ suf := by rw [hl']; simp
  have hmem : x ∈ l := by rw [hl']; simp
  obtain ⟨e1, he1⟩ := nm (row fI x.body)
  have hx := w x hmem
  have p0 : at' 2 ea i = some (ix, [.int .i64 x.tag, .row () e1]) := by rw [hix, he1]; exact F.get hi hea hl' (fun _ => rfl) (by decide)
  obtain ⟨v, hv⟩ := nm (tagIn b x)
  have c2 : o 285 [R eb (.sp 0 0), I x.tag] = some ⟨[B v], [], none⟩ := by rw [ho, hv, heb]; exact ok285 _ _ (by omega) rfl
  rw [F.lt_t hi la (by simp [hl'])]; cbv
  rw [p0]; cbv
  rw [c2]; cbv
  refine both (fun d => ?_) (fun d => ?_) <;> rw [d] <;> cbv
  ·rw [p0]; cbv
   rw [p0]; cbv
   rw [show allS e1 = true from F.scal he1 (fun _ => rfl)]; cbv
   rw [F.app_nil he1 (fun _ => rfl) hx]; cbv
   rw [show allS [[.int .i64 x.tag, .row () e1]] = false by rw [F.allS]; rfl]; cbv
   obtain ⟨eo', heo'⟩ := nm (row fExt (sel (tagIn b) idE pre ++ [idE x]))
   rw [show app 2 eo [[.int .i64 x.tag, .row () e1]] = some eo' by rw [heo', he1]; exact F.push hb (fun _ => rfl) rfl (by omega)]; cbv
   refine ih (suf, pre ++ [x], eo', add .i64 i 1) ⟨hi', hl2, by simp only; rw [heo', sel_t (by rw [← hv, d])]⟩ (by simp)
  ·refine ih (suf, pre ++ [x], eo, add .i64 i 1) ⟨hi', hl2, by simp only; rw [hb, sel_f (by rw [← hv, d])]⟩ (by simp)
theorem copy_id (l : List Ext) : sel (tagIn (sel yesE Ext.tag l)) idE l = l := by
 rw [sel_idE, List.filter_eq_self]
 intro a ha
 unfold tagIn hasI sel
 rw [List.any_eq_true]
 exact ⟨a.tag, List.mem_map.2 ⟨a, by simp [yesE, ha], rfl⟩, by simp⟩
theorem ok295 (l : List Ext) (hl : l.length ≤ 1073741824) (w : ∀ y ∈ l, y.body.length ≤ 1099511627776) {f0 : Fl} (h0 : inFl f0 = true) : fix Tb md 295 [R (row fExt l) f0] = some ⟨[R (row fExt l) (.ow false)], [], none⟩ := by
 obtain ⟨ea, hea⟩ := nm (row fExt l)
 rw [← hea]
 generalize hr : (⟨_, [], none⟩ : Ret) = r
 obtain ⟨et, het⟩ := nm (row fI (sel yesE Ext.tag l))
 have hlen : (sel yesE Ext.tag l).length ≤ l.length := sel_len
 refine fix_fn2 (fn := ir295) tb_295 rfl rfl (by decide) rfl ?_; intro Q hQ; simp only [shutArgs, shutS, List.map_cons, List.map_nil, ir295, shut_in h0, List.head?_nil, reduceCtorEq, if_false, sExt, sHello, sAnswer, sEdit, sDeal, sBox, sDialed, sKnown]
 intro add sub mul arith eq ne lt le gt ge neg conv mn mx not beq len at' ln bd cut app allS isNil mks set o hP F ho
 have c1 : o 280 [R ea (.sp 0 0)] = some ⟨[R et (.ow false)], [], none⟩ := by rw [ho, het, hea]; exact ok280 _ hl rfl
 have c2 : o 307 [R ea (.sp 0 0), R et (.sp 1 0)] = some ⟨[R ea (.ow false)], [], none⟩ := by
  rw [ho, het, hea]
  have h := ok307 l (sel yesE Ext.tag l) hl (by omega) w (f0 := .sp 0 0) (f1 := .sp 1 0) rfl rfl
  rw [copy_id] at h
  exact h
 cbv
 rw [c1]; cbv
 rw [c2]; cbv
 rw [hQ]; cbv
 exact congrArg some hr
theorem ok279 (h : Hello) (mh : h.Mid) {f0 f1 : Fl} (q0 : inFl f0 = true) (q1 : inFl f1 = true) : fix Tb md 279 [sHello (row fI h.versions) (row fExt h.exts) f0 f1] = some ⟨[sHello (row fI h.versions) (row fExt h.exts) (.ow false) (.ow false)], [], none⟩ := by
 have mh' := mh
 unfold Hello.Mid at mh'
 obtain ⟨ev, hev⟩ := nm (row fI h.versions)
 obtain ⟨ex, hex⟩ := nm (row fExt h.exts)
 rw [← hev, ← hex]
 generalize hr : (⟨_, [], none⟩ : Ret) = r
 refine fix_fn2 (fn := ir279) tb_279 rfl rfl (by decide) rfl ?_; intro Q hQ; simp only [shutArgs, shutS, List.map_cons, List.map_nil, ir279, shut_in q0, shut_in q1, List.head?_nil, reduceCtorEq, if_false, sExt, sHello, sAnswer, sEdit, sDeal, sBox, sDialed, sKnown]
 intro add sub mul arith eq ne lt le gt ge neg conv mn mx not beq len at' ln bd cut app allS isNil mks set o hP F ho
 have c1 : o 295 [R ex (.sp 0 0)] = some ⟨[R ex (.ow false)], [], none⟩ := by rw [ho, hex]; exact ok295 _ mh'.2.1 (fun y hy => Nat.le_trans (show y.body.length ≤ 1073741824 from mh'.2.2 y hy) (by decide)) rfl
 cbv
 rw [show allS ev = true from F.scal hev (fun _ => rfl)]; cbv
 rw [F.app_nil hev (fun _ => rfl) (Nat.le_trans mh'.1 (by decide))]; cbv
 rw [c1]; cbv
 rw [hQ]; cbv
 exact congrArg some hr
end Go.Vm
