/- What the functions answer. -/
import Derived.Test.YthfbmkhjanmeaaaGDTab
import Derived.Test.YthfbmkhjanmeaaaGDFA
import Derived.Test.YthfbmkhjanmeaaaGDFB
import Derived.Test.YthfbmkhjanmeaaaGDFC
set_option maxHeartbeats 4000000
set_option maxRecDepth 10000
set_option linter.unusedVariables false
set_option linter.unusedSimpArgs false
namespace Go.Vm
def onTag (p : Int → Bool) (e : Ext) : Bool := p e.tag
theorem ok264_0 (g : Nat) (hg : md g = []) (p : Int → Bool) (l : List Ext) (hl : l.length ≤ 1073741824) (w : ∀ y ∈ l, y.body.length ≤ 1099511627776) (hp : ∀ x ∈ l, fix Tb md g [I x.tag] = some ⟨[B (p x.tag)], [], none⟩) {f0 : Fl} (h0 : inFl f0 = true) : fix Tb md 264 [R (row fExt l) f0, ⟨.val, [⟨.fn g [], .sh⟩]⟩] = some ⟨[R (row fExt (sel (onTag p) idE l)) (.ow false)], [], none⟩ := by
 generalize hm_ : md = m_ at hg hp ⊢
 obtain ⟨et, het⟩ := nm (row fExt (sel (onTag p) idE l))
 rw [← het]
 generalize hr : (⟨_, [], none⟩ : Ret) = r
 obtain ⟨ea, hea⟩ := nm (row fExt l)
 rw [← hea]
 refine fix_fn2 (fn := ir264) tb_264 rfl rfl (by decide) rfl ?_; intro Q hQ; simp only [shutArgs, shutS, List.map_cons, List.map_nil, ir264, shut_in h0, List.head?_nil, reduceCtorEq, if_false, sExt, sHello, sAnswer, sEdit, sDeal, sBox, sDialed, sKnown]
 intro add sub mul arith eq ne lt le gt ge neg conv mn mx not beq len at' ln bd cut app allS isNil mks set o hP F ho
 have la := F.len_at hea
 cbv
 refine loop_ind2 hP (σ := List Ext × List Ext × List (List V) × Int × Option (Int × List (List V))) (fun s => match s.2.2.2.2 with | none => [(0, R ea .sh), (1, ⟨.val, [⟨.fn g [], .sh⟩]⟩), (4, R [] .nl), (5, R s.2.2.1 (.ow false)), (9, R ea .sh), (10, I (len ea)), (11, I s.2.2.2.1)] | some j => [(0, R ea .sh), (1, ⟨.val, [⟨.fn g [], .sh⟩]⟩), (4, R [] .nl), (5, R s.2.2.1 (.ow false)), (7, ⟨.ptr 38 0, []⟩), (9, R ea .sh), (10, I (len ea)), (11, I s.2.2.2.1), (38, ⟨.box (), [⟨.int .i64 j.1, .sc⟩, ⟨.row () j.2, .sh⟩]⟩)]) (fun s => At s.2.2.2.1 s.2.1.length ∧ l = s.2.1 ++ s.1 ∧ s.2.2.1 = row fExt (sel (onTag p) idE s.2.1)) (fun s => s.1.length) (l, [], [], 0, none) rfl ⟨rfl, rfl, rfl⟩ ?_
 intro c1 Q1 hc1 hQ1
 rintro ⟨suf, pre, eo, i, j⟩ ⟨hi, hl', hb⟩ ih
 simp only at hi hl' hb ih
 rcases j with _ | ⟨j1, j2⟩
 all_goals
  cbv
  cases suf with
  | nil =>
   rw [F.lt_f hi la (by simp [hl'])]; cbv
   rw [hQ1]; cbv
   rw [hQ]; cbv
   rw [← hr, het, hb, hl', List.append_nil]
  | cons x suf =>
   obtain ⟨ix, hix⟩ := nm (pre.length * 2)
   have hpre : pre.length ≤ 1073741824 := by rw [hl'] at hl; simp at hl; omega
   have hs : (sel (onTag p) idE pre).length ≤ pre.length := sel_len
   have hi' : At (add .i64 i 1) (pre ++ [x]).length := at_len (F.inc hi (by omega)) (by simp)
   have hl2 : l = (pre ++ [x]) ++ suf := by rw [hl']; simp
   have hmem : x ∈ l := by rw [hl']; simp
   obtain ⟨e1, he1⟩ := nm (row fI x.body)
   have hx := w x hmem
   have p0 : at' 2 ea i = some (ix, [.int .i64 x.tag, .row () e1]) := by rw [hix, he1]; exact F.get hi hea hl' (fun _ => rfl) (by decide)
   obtain ⟨v, hv⟩ := nm (onTag p x)
   have c2 : o g [I x.tag] = some ⟨[B v], [], none⟩ := by rw [ho, hv]; exact hp x hmem
   rw [F.lt_t hi la (by simp [hl'])]; cbv
   rw [p0]; cbv
   rw [hg]; cbv
   rw [c2]; cbv
   refine both (fun d => ?_) (fun d => ?_) <;> rw [d] <;> cbv
   ·rw [show allS e1 = true from F.scal he1 (fun _ => rfl)]; cbv
    rw [F.app_nil he1 (fun _ => rfl) hx]; cbv
    rw [show allS [[.int .i64 x.tag, .row () e1]] = false by rw [F.allS]; rfl]; cbv
    obtain ⟨eo', heo'⟩ := nm (row fExt (sel (onTag p) idE pre ++ [idE x]))
    rw [show app 2 eo [[.int .i64 x.tag, .row () e1]] = some eo' by rw [heo', he1]; exact F.push hb (fun _ => rfl) rfl (by omega)]; cbv
    refine ih (suf, pre ++ [x], eo', add .i64 i 1, some (x.tag, e1)) ⟨hi', hl2, by simp only; rw [heo', sel_t (by rw [← hv, d])]⟩ (by simp)
   ·refine ih (suf, pre ++ [x], eo, add .i64 i 1, some (x.tag, e1)) ⟨hi', hl2, by simp only; rw [hb, sel_f (by rw [← hv, d])]⟩ (by simp)
theorem ok264_1 (g : Nat) (hg : md g = []) (k0 : V) (p : Int → Bool) (l : List Ext) (hl : l.length ≤ 1073741824) (w : ∀ y ∈ l, y.body.length ≤ 1099511627776) (hp : ∀ x ∈ l, fix Tb md g [I x.tag, ⟨.val, [⟨k0, .sh⟩]⟩] = some ⟨[B (p x.tag)], [], none⟩) {f0 : Fl} (h0 : inFl f0 = true) : fix Tb md 264 [R (row fExt l) f0, ⟨.val, [⟨.fn g [k0], .sh⟩]⟩] = some ⟨[R (row fExt (sel (onTag p) idE l)) (.ow false)], [], none⟩ := by
 generalize hm_ : md = m_ at hg hp ⊢
 obtain ⟨et, het⟩ := nm (row fExt (sel (onTag p) idE l))
 rw [← het]
 generalize hr : (⟨_, [], none⟩ : Ret) = r
 obtain ⟨ea, hea⟩ := nm (row fExt l)
 rw [← hea]
 refine fix_fn2 (fn := ir264) tb_264 rfl rfl (by decide) rfl ?_; intro Q hQ; simp only [shutArgs, shutS, List.map_cons, List.map_nil, ir264, shut_in h0, List.head?_nil, reduceCtorEq, if_false, sExt, sHello, sAnswer, sEdit, sDeal, sBox, sDialed, sKnown]
 intro add sub mul arith eq ne lt le gt ge neg conv mn mx not beq len at' ln bd cut app allS isNil mks set o hP F ho
 have la := F.len_at hea
 cbv
 refine loop_ind2 hP (σ := List Ext × List Ext × List (List V) × Int × Option (Int × List (List V))) (fun s => match s.2.2.2.2 with | none => [(0, R ea .sh), (1, ⟨.val, [⟨.fn g [k0], .sh⟩]⟩), (4, R [] .nl), (5, R s.2.2.1 (.ow false)), (9, R ea .sh), (10, I (len ea)), (11, I s.2.2.2.1)] | some j => [(0, R ea .sh), (1, ⟨.val, [⟨.fn g [k0], .sh⟩]⟩), (4, R [] .nl), (5, R s.2.2.1 (.ow false)), (7, ⟨.ptr 38 0, []⟩), (9, R ea .sh), (10, I (len ea)), (11, I s.2.2.2.1), (38, ⟨.box (), [⟨.int .i64 j.1, .sc⟩, ⟨.row () j.2, .sh⟩]⟩)]) (fun s => At s.2.2.2.1 s.2.1.length ∧ l = s.2.1 ++ s.1 ∧ s.2.2.1 = row fExt (sel (onTag p) idE s.2.1)) (fun s => s.1.length) (l, [], [], 0, none) rfl ⟨rfl, rfl, rfl⟩ ?_
 intro c1 Q1 hc1 hQ1
 rintro ⟨suf, pre, eo, i, j⟩ ⟨hi, hl', hb⟩ ih
 simp only at hi hl' hb ih
 rcases j with _ | ⟨j1, j2⟩
 all_goals
  cbv
  cases suf with
  | nil =>
   rw [F.lt_f hi la (by simp [hl'])]; cbv
   rw [hQ1]; cbv
   rw [hQ]; cbv
   rw [← hr, het, hb, hl', List.append_nil]
  | cons x suf =>
   obtain ⟨ix, hix⟩ := nm (pre.length * 2)
   have hpre : pre.length ≤ 1073741824 := by rw [hl'] at hl; simp at hl; omega
   have hs : (sel (onTag p) idE pre).length ≤ pre.length := sel_len
   have hi' : At (add .i64 i 1) (pre ++ [x]).length := at_len (F.inc hi (by omega)) (by simp)
   have hl2 : l = (pre ++ [x]) ++ suf := by rw [hl']; simp
   have hmem : x ∈ l := by rw [hl']; simp
   obtain ⟨e1, he1⟩ := nm (row fI x.body)
   have hx := w x hmem
   have p0 : at' 2 ea i = some (ix, [.int .i64 x.tag, .row () e1]) := by rw [hix, he1]; exact F.get hi hea hl' (fun _ => rfl) (by decide)
   obtain ⟨v, hv⟩ := nm (onTag p x)
   have c2 : o g [I x.tag, ⟨.val, [⟨k0, .sh⟩]⟩] = some ⟨[B v], [], none⟩ := by rw [ho, hv]; exact hp x hmem
   rw [F.lt_t hi la (by simp [hl'])]; cbv
   rw [p0]; cbv
   rw [hg]; cbv
   rw [c2]; cbv
   refine both (fun d => ?_) (fun d => ?_) <;> rw [d] <;> cbv
   ·rw [show allS e1 = true from F.scal he1 (fun _ => rfl)]; cbv
    rw [F.app_nil he1 (fun _ => rfl) hx]; cbv
    rw [show allS [[.int .i64 x.tag, .row () e1]] = false by rw [F.allS]; rfl]; cbv
    obtain ⟨eo', heo'⟩ := nm (row fExt (sel (onTag p) idE pre ++ [idE x]))
    rw [show app 2 eo [[.int .i64 x.tag, .row () e1]] = some eo' by rw [heo', he1]; exact F.push hb (fun _ => rfl) rfl (by omega)]; cbv
    refine ih (suf, pre ++ [x], eo', add .i64 i 1, some (x.tag, e1)) ⟨hi', hl2, by simp only; rw [heo', sel_t (by rw [← hv, d])]⟩ (by simp)
   ·refine ih (suf, pre ++ [x], eo, add .i64 i 1, some (x.tag, e1)) ⟨hi', hl2, by simp only; rw [hb, sel_f (by rw [← hv, d])]⟩ (by simp)
theorem hasI_ix (l : List Int) (n : Int) : decide (0 ≤ ixOf (fun y => decide (y = n)) l 0) = hasI l n := ixOf_ge _ l 0 (by decide)
theorem ok354 (l : List Int) (n : Int) (hl : l.length ≤ 1099511627776) {f0 : Fl} (h0 : inFl f0 = true) : fix Tb md 354 [R (row fI l) f0, I n] = some ⟨[I (ixOf (fun y => decide (y = n)) l 0)], [], none⟩ := by
 obtain ⟨T, hT⟩ := nm (ixOf (fun y => decide (y = n)) l 0)
 rw [← hT]
 generalize hr : (⟨_, [], none⟩ : Ret) = r
 obtain ⟨ea, hea⟩ := nm (row fI l)
 rw [← hea]
 refine fix_fn2 (fn := ir354) tb_354 rfl rfl (by decide) rfl ?_; intro Q hQ; simp only [shutArgs, shutS, List.map_cons, List.map_nil, ir354, shut_in h0, List.head?_nil, reduceCtorEq, if_false, sExt, sHello, sAnswer, sEdit, sDeal, sBox, sDialed, sKnown]
 intro add sub mul arith eq ne lt le gt ge neg conv mn mx not beq len at' ln bd cut app allS isNil mks set o hP F ho
 have la := F.len_at hea
 cbv
 refine loop_ind2 hP (σ := List Int × List Int × Int × Option Int) (fun s => match s.2.2.2 with | none => [(0, R ea .sh), (1, I n), (4, I 0), (7, I (len ea)), (8, I s.2.2.1)] | some j => [(0, R ea .sh), (1, I n), (4, I 0), (5, I j), (7, I (len ea)), (8, I s.2.2.1)]) (fun s => At s.2.2.1 s.2.1.length ∧ l = s.2.1 ++ s.1 ∧ ixOf (fun y => decide (y = n)) s.1 s.2.2.1 = T) (fun s => s.1.length) (l, [], 0, none) rfl ⟨rfl, rfl, hT.symm⟩ ?_
 intro c1 Q1 hc1 hQ1
 rintro ⟨suf, pre, i, j⟩ ⟨hi, hl', hb⟩ ih
 simp only at hi hl' hb ih
 have hpre : pre.length ≤ 1099511627776 := by rw [hl'] at hl; simp at hl; omega
 rcases j with _ | _
 all_goals
  cbv
  cases suf with
  | nil =>
   rw [F.lt_f hi la (by simp [hl'])]; cbv
   rw [hQ1]; cbv
   rw [hQ]; cbv
   rw [← hr, ← hb]; rfl
  | cons x suf =>
   obtain ⟨v, hv⟩ := nm (decide (x = n))
   have hb' : T = if v = true then i else ixOf (fun y => decide (y = n)) suf (i + 1) := by rw [← hb, hv]; rfl
   have hinc : add .i64 i 1 = i + 1 := by unfold At at hi; rw [F.add, hi, wrap64 (by omega) (by omega)]
   obtain ⟨ix, hix⟩ := nm (pre.length * 1)
   rw [F.lt_t hi la (by simp [hl'])]; cbv
   rw [show at' 1 ea i = some (ix, [.int .i64 x]) by rw [hix]; exact F.get hi hea hl' (fun _ => rfl) (by decide)]; cbv
   rw [show eq n x = v by rw [F.eq, hv]; exact decide_eq_decide.2 eq_comm]; cbv
   refine both (fun d => ?_) (fun d => ?_) <;> rw [d] <;> cbv
   ·rw [hQ1]; cbv
    rw [hQ]; cbv
    rw [← hr, hb', if_pos d]
   ·refine ih (suf, pre ++ [x], add .i64 i 1, some i) ⟨at_len (F.inc hi (by omega)) (by simp), by simp [hl'], ?_⟩ (by simp)
    rw [hb', if_neg (by rw [d]; decide), hinc]
theorem ok302 (l : List Int) (n : Int) (hl : l.length ≤ 1099511627776) {f0 : Fl} (h0 : inFl f0 = true) : fix Tb md 302 [R (row fI l) f0, I n] = some ⟨[B (hasI l n)], [], none⟩ := by
 rw [← hasI_ix]
 obtain ⟨v, hv⟩ := nm (ixOf (fun y => decide (y = n)) l 0)
 rw [← hv]
 generalize hr : (⟨_, [], none⟩ : Ret) = r
 obtain ⟨ea, hea⟩ := nm (row fI l)
 rw [← hea]
 refine fix_fn2 (fn := ir302) tb_302 rfl rfl (by decide) rfl ?_; intro Q hQ; simp only [shutArgs, shutS, List.map_cons, List.map_nil, ir302, shut_in h0, List.head?_nil, reduceCtorEq, if_false, sExt, sHello, sAnswer, sEdit, sDeal, sBox, sDialed, sKnown]
 intro add sub mul arith eq ne lt le gt ge neg conv mn mx not beq len at' ln bd cut app allS isNil mks set o hP F ho
 have c1 : o 354 [R ea (.sp 0 0), I n] = some ⟨[I v], [], none⟩ := by rw [ho, hv, hea]; exact ok354 _ _ hl rfl
 cbv
 rw [c1]; cbv
 rw [hQ]; cbv
 rw [← hr, F.ge]
theorem ok287 (l b : List Int) (hl : l.length ≤ 1073741824) (hb' : b.length ≤ 1073741824) {f0 f1 : Fl} (h0 : inFl f0 = true) (h1 : inFl f1 = true) : fix Tb md 287 [R (row fI l) f0, R (row fI b) f1] = some ⟨[R (row fI (sel (notIn b) idI l)) (.ow false)], [], none⟩ := by
 obtain ⟨et, het⟩ := nm (row fI (sel (notIn b) idI l))
 rw [← het]
 generalize hr : (⟨_, [], none⟩ : Ret) = r
 obtain ⟨ea, hea⟩ := nm (row fI l)
 obtain ⟨eb, heb⟩ := nm (row fI b)
 rw [← hea, ← heb]
 refine fix_fn2 (fn := ir287) tb_287 rfl rfl (by decide) rfl ?_; intro Q hQ; simp only [shutArgs, shutS, List.map_cons, List.map_nil, ir287, shut_in h0, shut_in h1, List.head?_nil, reduceCtorEq, if_false, sExt, sHello, sAnswer, sEdit, sDeal, sBox, sDialed, sKnown]
 intro add sub mul arith eq ne lt le gt ge neg conv mn mx not beq len at' ln bd cut app allS isNil mks set o hP F ho
 have la := F.len_at hea
 cbv
 refine loop_ind2 hP (σ := List Int × List Int × List (List V) × Int × Option (Int)) (fun s => match s.2.2.2.2 with | none => [(0, R ea .sh), (1, R eb .sh), (4, R [] .nl), (5, R s.2.2.1 (.ow false)), (9, R ea .sh), (10, I (len ea)), (11, I s.2.2.2.1)] | some j => [(0, R ea .sh), (1, R eb .sh), (4, R [] .nl), (5, R s.2.2.1 (.ow false)), (7, I j), (9, R ea .sh), (10, I (len ea)), (11, I s.2.2.2.1)]) (fun s => At s.2.2.2.1 s.2.1.length ∧ l = s.2.1 ++ s.1 ∧ s.2.2.1 = row fI (sel (notIn b) idI s.2.1)) (fun s => s.1.length) (l, [], [], 0, none) rfl ⟨rfl, rfl, rfl⟩ ?_
 intro c1 Q1 hc1 hQ1
 rintro ⟨suf, pre, eo, i, j⟩ ⟨hi, hl', hb⟩ ih
 simp only at hi hl' hb ih
 rcases j with _ | _
 all_goals
  cbv
  cases suf with
  | nil =>
   rw [F.lt_f hi la (by simp [hl'])]; cbv
   rw [hQ1]; cbv
   rw [hQ]; cbv
   rw [← hr, het, hb, hl', List.append_nil]
  | cons x suf =>
   obtain ⟨ix, hix⟩ := nm (pre.length * 1)
   have hpre : pre.length ≤ 1073741824 := by rw [hl'] at hl; simp at hl; omega
   have hs : (sel (notIn b) idI pre).length ≤ pre.length := sel_len
   have hi' : At (add .i64 i 1) (pre ++ [x]).length := at_len (F.inc hi (by omega)) (by simp)
   have hl2 : l = (pre ++ [x]) ++ suf := by rw [hl']; simp
   have hmem : x ∈ l := by rw [hl']; simp
   have p0 : at' 1 ea i = some (ix, [.int .i64 x]) := by rw [hix]; exact F.get hi hea hl' (fun _ => rfl) (by decide)
   obtain ⟨v, hv⟩ := nm (hasI b x)
   have hP : notIn b x = !v := by rw [hv]; rfl
   have c2 : o 302 [R eb (.sp 0 0), I x] = some ⟨[B v], [], none⟩ := by rw [ho, hv, heb]; exact ok302 _ _ (by omega) rfl
   rw [F.lt_t hi la (by simp [hl'])]; cbv
   rw [p0]; cbv
   rw [c2]; cbv
   refine both (fun d => ?_) (fun d => ?_) <;> rw [d] <;> cbv
   ·rw [show allS [[.int .i64 x]] = true by rw [F.allS]; rfl]; cbv
    obtain ⟨eo', heo'⟩ := nm (row fI (sel (notIn b) idI pre ++ [idI x]))
    rw [show app 1 eo [[.int .i64 x]] = some eo' by rw [heo']; exact F.push hb (fun _ => rfl) rfl (by omega)]; cbv
    refine ih (suf, pre ++ [x], eo', add .i64 i 1, some x) ⟨hi', hl2, by simp only; rw [heo', sel_t (by rw [hP, F.not_t d]; rfl)]⟩ (by simp)
   ·refine ih (suf, pre ++ [x], eo, add .i64 i 1, some x) ⟨hi', hl2, by simp only; rw [hb, sel_f (by rw [hP, F.not_f d]; rfl)]⟩ (by simp)
theorem ok305 (n : Int) (b : List Int) (hb : b.length ≤ 1099511627776) : fix Tb md 305 [I n, ⟨.val, [⟨.ptr () [.row () (row fI b)], .sh⟩]⟩] = some ⟨[B (!hasI b n)], [], none⟩ := by
 obtain ⟨v, hv⟩ := nm (hasI b n)
 rw [← hv]
 generalize hr : (⟨_, [], none⟩ : Ret) = r
 obtain ⟨eb, heb⟩ := nm (row fI b)
 rw [← heb]
 refine fix_fn2 (fn := ir305) tb_305 rfl rfl (by decide) rfl ?_; intro Q hQ; simp only [shutArgs, shutS, List.map_cons, List.map_nil, ir305, List.head?_nil, reduceCtorEq, if_false, sExt, sHello, sAnswer, sEdit, sDeal, sBox, sDialed, sKnown]
 intro add sub mul arith eq ne lt le gt ge neg conv mn mx not beq len at' ln bd cut app allS isNil mks set o hP F ho
 have c1 : o 302 [R eb (.sp 0 0), I n] = some ⟨[B v], [], none⟩ := by rw [ho, hv, heb]; exact ok302 _ _ hb rfl
 cbv
 rw [c1]; cbv
 rw [hQ]; cbv
 rw [← hr, F.not]
theorem ok165 (h : Hello) (lv tg : List Int) (mh : h.Mid) (a1 : lv.length ≤ 1073741824) (a2 : tg.length ≤ 1073741824) {f0 f1 f2 f3 : Fl} (q0 : inFl f0 = true) (q1 : inFl f1 = true) (q2 : inFl f2 = true) (q3 : inFl f3 = true) :
  fix Tb md 165 [sHello (row fI h.versions) (row fExt h.exts) f0 f1, R (row fI lv) f2, R (row fI tg) f3] = some ⟨[sHello (row fI (partV h lv tg).versions) (row fExt (partV h lv tg).exts) (.ow false) (.ow false), B (partOk h lv)], [], none⟩ ∨
  ((partV h lv tg).versions = [] ∧ (partV h lv tg).exts = [] ∧ fix Tb md 165 [sHello (row fI h.versions) (row fExt h.exts) f0 f1, R (row fI lv) f2, R (row fI tg) f3] = some ⟨[sHello [] [] .nl .nl, B (partOk h lv)], [], none⟩) := by
 have mh' := mh
 unfold Hello.Mid at mh'
 have hvl := mh'.1
 have hxl := mh'.2.1
 have wh : ∀ y ∈ h.exts, y.body.length ≤ 1099511627776 := fun y hy => Nat.le_trans (show y.body.length ≤ 1073741824 from mh'.2.2 y hy) (by decide)
 obtain ⟨W, hW⟩ := nm (sel (notIn lv) idI h.versions)
 obtain ⟨Z, hZ⟩ := nm (sel (notTagIn tg) idE h.exts)
 have hWl : W.length ≤ 1073741824 := by rw [hW]; exact Nat.le_trans sel_len hvl
 obtain ⟨u, hu⟩ := nm (isHel h)
 obtain ⟨z, hz⟩ := nm (decide (W.length = 0))
 suffices hmain : ∀ r, (u = true → z = false → (⟨[sHello (row fI W) (row fExt Z) (.ow false) (.ow false), B true], [], none⟩ : Ret) = r) → (u = false ∨ z = true → (⟨[sHello [] [] .nl .nl, B false], [], none⟩ : Ret) = r) → fix Tb md 165 [sHello (row fI h.versions) (row fExt h.exts) f0 f1, R (row fI lv) f2, R (row fI tg) f3] = some r by
  have ho : partOk h lv = (u && !z) := by rw [hu, hz, hW]; rfl
  cases hk : (u && !z) with
  | false =>
   rw [hk] at ho
   have hp : partV h lv tg = ⟨[], []⟩ := by rw [partV, ho]; rfl
   rw [hp, ho]
   refine .inr ⟨rfl, rfl, hmain _ (fun q1 q2 => ?_) (fun _ => rfl)⟩
   rw [q1, q2] at hk; exact Bool.noConfusion hk
  | true =>
   rw [hk] at ho
   have hp : partV h lv tg = ⟨W, Z⟩ := by rw [partV, ho, if_pos rfl, hW, hZ]
   rw [hp, ho]
   refine .inl (hmain _ (fun _ _ => rfl) (fun q => ?_))
   rcases q with q | q
   ·rw [q] at hk; exact Bool.noConfusion hk
   ·rw [q] at hk; simp at hk
 intro r rA rC
 obtain ⟨dv, hdv⟩ := nm (row fI h.versions)
 obtain ⟨dx, hdx⟩ := nm (row fExt h.exts)
 obtain ⟨el, hel⟩ := nm (row fI lv)
 obtain ⟨et, het⟩ := nm (row fI tg)
 rw [← hdv, ← hdx, ← hel, ← het]
 obtain ⟨ew, hew⟩ := nm (row fI W)
 obtain ⟨ez, hez⟩ := nm (row fExt Z)
 rw [← hew, ← hez] at rA
 refine fix_fn2 (fn := ir165) tb_165 rfl rfl (by decide) rfl ?_; intro Q hQ; simp only [shutArgs, shutS, List.map_cons, List.map_nil, ir165, shut_in q0, shut_in q1, shut_in q2, shut_in q3, List.head?_nil, reduceCtorEq, if_false, sExt, sHello, sAnswer, sEdit, sDeal, sBox, sDialed, sKnown]
 intro add sub mul arith eq ne lt le gt ge neg conv mn mx not beq len at' ln bd cut app allS isNil mks set o hP F ho
 have lw := F.len_at hew
 have c1 : o 287 [R dv (.sp 0 0), R el (.sp 1 0)] = some ⟨[R ew (.ow false)], [], none⟩ := by rw [ho, hew, hW, hdv, hel]; exact ok287 _ _ hvl a1 rfl rfl
 have c2 : o 113 [sHello dv dx (.sp 0 0) (.sp 0 1)] = some ⟨[B u], [], none⟩ := by rw [ho, hu, hdv, hdx]; exact ok113 _ (by omega) (by omega) wh rfl rfl
 have c3 : o 264 [R dx (.sp 0 0), ⟨.val, [⟨.fn 305 [.ptr () [.row () et]], .sh⟩]⟩] = some ⟨[R ez (.ow false)], [], none⟩ := by
  rw [ho, hez, hZ, hdx, het]
  exact ok264_1 305 rfl _ (fun n => !hasI tg n) h.exts hxl wh (fun x _ => ok305 x.tag tg (by omega)) rfl
 have g1 : eq (len ew) 0 = z := by rw [F.eq_n lw (k := 0) (m := 0) rfl, hz]
 cbv
 rw [c1]; cbv
 rw [c2]; cbv
 refine both (fun d1 => ?_) (fun d1 => ?_) <;> rw [d1] <;> cbv
 ·rw [hQ]; cbv
  exact congrArg some (rC (.inl (F.not_t d1)))
 rw [g1]; cbv
 refine both (fun d2 => ?_) (fun d2 => ?_) <;> rw [d2] <;> cbv
 ·rw [hQ]; cbv
  exact congrArg some (rC (.inr d2))
 rw [c3]; cbv
 rw [hQ]; cbv
 exact congrArg some (rA (F.not_f d1) d2)
theorem ok299 (l : List Int) (hl : l.length ≤ 1099511627776) {f0 : Fl} (h0 : inFl f0 = true) : fix Tb md 299 [R (row fI l) f0] = some ⟨[R (row fI l) (.ow false)], [], none⟩ := by
 refine fix_special tb_299 (by decide) ?_
 show special 1 _ = _
 have h1 : (row fI l).all (fun e => e.all scal && e.length = 1) = true := by
  rw [List.all_eq_true]; intro e he
  obtain ⟨x, _, rfl⟩ := List.mem_map.1 he
  rfl
 have h2 : (row fI l).length ≤ lim := by unfold row; simpa [lim] using hl
 have h3 : inF0 f0 = true := by cases f0 <;> first | rfl | cases h0
 show special 1 [⟨.val, [⟨.row () (row fI l), f0⟩]⟩] = _
 simp only [special, h1, h3, decide_eq_true h2, Bool.and_self, if_true]
theorem ok288_0 (g : Nat) (hg : md g = []) (p : Ext → Bool) (l : List Ext) (hl : l.length ≤ 1099511627776) (hp : ∀ x ∈ l, fix Tb md g [sExt x.tag (row fI x.body) (.sp 0 1)] = some ⟨[B (p x)], [], none⟩) {f0 : Fl} (h0 : inFl f0 = true) :
  fix Tb md 288 [R (row fExt l) f0, ⟨.val, [⟨.fn g [], .sh⟩]⟩] = some ⟨[B (l.any p)], [], none⟩ := by
 refine fix_fn (fn := ir288) tb_288 rfl rfl (by decide) rfl ?_; simp only [shutArgs, shutS, List.map_cons, List.map_nil, ir288, shut_in h0, List.head?_nil, reduceCtorEq, if_false, sExt, sHello, sAnswer, sEdit, sDeal, sBox, sDialed, sKnown]
 generalize hr : (⟨_, [], none⟩ : Ret) = r
 obtain ⟨ea, hea⟩ := nm (row fExt l)
 rw [← hea]
 obtain ⟨v, hv⟩ := nm (ixOf p l 0)
 have hv2 : decide (0 ≤ v) = l.any p := by rw [hv]; exact ixOf_ge p l 0 (by decide)
 rw [← hv2] at hr
 clear hv2
 intro add sub mul arith eq ne lt le gt ge neg conv mn mx not beq len at' ln bd cut app allS isNil mks set o hP F ho
 have c1 : o 351 [R ea (.sp 0 0), ⟨.val, [⟨.fn g [], .sh⟩]⟩] = some ⟨[I v], [], none⟩ := by rw [ho, hv, hea]; exact ok351_0 g hg p l hl hp rfl
 cbv
 rw [c1]; cbv
 rw [← hr, F.ge]
theorem ok288_1 (g : Nat) (hg : md g = []) (k0 : V) (p : Ext → Bool) (l : List Ext) (hl : l.length ≤ 1099511627776) (hp : ∀ x ∈ l, fix Tb md g [sExt x.tag (row fI x.body) (.sp 0 1), ⟨.val, [⟨k0, .sh⟩]⟩] = some ⟨[B (p x)], [], none⟩) {f0 : Fl} (h0 : inFl f0 = true) :
  fix Tb md 288 [R (row fExt l) f0, ⟨.val, [⟨.fn g [k0], .sh⟩]⟩] = some ⟨[B (l.any p)], [], none⟩ := by
 refine fix_fn (fn := ir288) tb_288 rfl rfl (by decide) rfl ?_; simp only [shutArgs, shutS, List.map_cons, List.map_nil, ir288, shut_in h0, List.head?_nil, reduceCtorEq, if_false, sExt, sHello, sAnswer, sEdit, sDeal, sBox, sDialed, sKnown]
 generalize hr : (⟨_, [], none⟩ : Ret) = r
 obtain ⟨ea, hea⟩ := nm (row fExt l)
 rw [← hea]
 obtain ⟨v, hv⟩ := nm (ixOf p l 0)
 have hv2 : decide (0 ≤ v) = l.any p := by rw [hv]; exact ixOf_ge p l 0 (by decide)
 rw [← hv2] at hr
 clear hv2
 intro add sub mul arith eq ne lt le gt ge neg conv mn mx not beq len at' ln bd cut app allS isNil mks set o hP F ho
 have c1 : o 351 [R ea (.sp 0 0), ⟨.val, [⟨.fn g [k0], .sh⟩]⟩] = some ⟨[I v], [], none⟩ := by rw [ho, hv, hea]; exact ok351_1 g hg k0 p l hl hp rfl
 cbv
 rw [c1]; cbv
 rw [← hr, F.ge]
theorem ok288_2 (g : Nat) (hg : md g = []) (k0 k1 : V) (p : Ext → Bool) (l : List Ext) (hl : l.length ≤ 1099511627776) (hp : ∀ x ∈ l, fix Tb md g [sExt x.tag (row fI x.body) (.sp 0 1), ⟨.val, [⟨k0, .sh⟩]⟩, ⟨.val, [⟨k1, .sh⟩]⟩] = some ⟨[B (p x)], [], none⟩) {f0 : Fl} (h0 : inFl f0 = true) :
  fix Tb md 288 [R (row fExt l) f0, ⟨.val, [⟨.fn g [k0, k1], .sh⟩]⟩] = some ⟨[B (l.any p)], [], none⟩ := by
 refine fix_fn (fn := ir288) tb_288 rfl rfl (by decide) rfl ?_; simp only [shutArgs, shutS, List.map_cons, List.map_nil, ir288, shut_in h0, List.head?_nil, reduceCtorEq, if_false, sExt, sHello, sAnswer, sEdit, sDeal, sBox, sDialed, sKnown]
 generalize hr : (⟨_, [], none⟩ : Ret) = r
 obtain ⟨ea, hea⟩ := nm (row fExt l)
 rw [← hea]
 obtain ⟨v, hv⟩ := nm (ixOf p l 0)
 have hv2 : decide (0 ≤ v) = l.any p := by rw [hv]; exact ixOf_ge p l 0 (by decide)
 rw [← hv2] at hr
 clear hv2
 intro add sub mul arith eq ne lt le gt ge neg conv mn mx not beq len at' ln bd cut app allS isNil mks set o hP F ho
 have c1 : o 351 [R ea (.sp 0 0), ⟨.val, [⟨.fn g [k0, k1], .sh⟩]⟩] = some ⟨[I v], [], none⟩ := by rw [ho, hv, hea]; exact ok351_2 g hg k0 k1 p l hl hp rfl
 cbv
 rw [c1]; cbv
 rw [← hr, F.ge]
def lastI (l : List Int) : Int := (l.getLast?).getD 0
def stripE (b : List Int) (e : Ext) : Bool := !hasI b e.tag
def lost (b : Box) (e : Ext) : Bool := hasI b.drops e.tag || (b.lists && !hasI b.strips e.tag && !inR e.tag 1 3)
def overL (b : Box) (h : Hello) : Bool := decide (0 < b.limit) && decide (b.limit < lastI h.versions)
def pbOk (b : Box) (h : Hello) : Bool := isBox b.limit b.drops b.strips && isHel h && !overL b h && !h.exts.any (lost b)
def pbV (b : Box) (h : Hello) : Hello := if pbOk b h then ⟨h.versions, sel (stripE b.strips) idE h.exts⟩ else ⟨[], []⟩
theorem pbV_mid {b : Box} {h : Hello} (m : h.Mid) : (pbV b h).Mid := by
 unfold pbV
 split
 ·unfold Hello.Mid at *
  exact ⟨m.1, Nat.le_trans sel_len m.2.1, fun y hy => m.2.2 y (by simp only [sel_idE] at hy; exact (List.mem_filter.1 hy).1)⟩
 ·exact ⟨by simp, by simp, by simp⟩
theorem isHel_ne {h : Hello} (hh : isHel h = true) : ∃ p y, h.versions = p ++ [y] ∧ lastI h.versions = y := by
 unfold isHel areVer at hh
 simp only [Bool.and_eq_true, decide_eq_true_eq] at hh
 rcases List.eq_nil_or_concat h.versions with h0 | ⟨p, y, h0⟩
 ·rw [h0] at hh; simp at hh
 ·rw [List.concat_eq_append] at h0; exact ⟨p, y, h0, by rw [h0]; simp [lastI]⟩
def maxGo (m : Int) : List Int → Int
 | [] => m
 | x :: xs => maxGo (if x > m then x else m) xs
theorem max_last : ∀ (xs pre : List Int) (m : Int), verGo (pre ++ [m]) xs = true → maxGo m xs = lastI (m :: xs)
 | [], _, m, _ => rfl
 | x :: xs, pre, m, h => by
  unfold verGo at h
  simp only [Bool.and_eq_true] at h
  obtain ⟨⟨_, h2⟩, h3⟩ := h
  have hx : x > m := by simp at h2; omega
  show maxGo (if x > m then x else m) xs = _
  rw [if_pos hx, max_last xs (pre ++ [m]) x h3]
  show _ = lastI (m :: x :: xs)
  simp [lastI]
theorem max_hel {x : Int} {xs : List Int} (h : areVer (x :: xs) = true) : maxGo x xs = lastI (x :: xs) := by
 unfold areVer at h
 simp only [Bool.and_eq_true] at h
 have h1 := h.1
 unfold verGo at h1
 simp only [Bool.and_eq_true] at h1
 exact max_last xs [] x h1.2
theorem ok358 (x : Int) (xs : List Int) (hl : (x :: xs).length ≤ 1099511627776) {f0 : Fl} (h0 : inFl f0 = true) : fix Tb md 358 [R (row fI (x :: xs)) f0] = some ⟨[I (maxGo x xs)], [], none⟩ := by
 obtain ⟨T, hT⟩ := nm (maxGo x xs)
 rw [← hT]
 generalize hr : (⟨_, [], none⟩ : Ret) = r
 obtain ⟨l, hl0⟩ := nm (x :: xs)
 rw [← hl0] at hl ⊢
 obtain ⟨ea, hea⟩ := nm (row fI l)
 rw [← hea]
 refine fix_fn2 (fn := ir358) tb_358 rfl rfl (by decide) rfl ?_; intro Q hQ; simp only [shutArgs, shutS, List.map_cons, List.map_nil, ir358, shut_in h0, List.head?_nil, reduceCtorEq, if_false, sExt, sHello, sAnswer, sEdit, sDeal, sBox, sDialed, sKnown]
 intro add sub mul arith eq ne lt le gt ge neg conv mn mx not beq len at' ln bd cut app allS isNil mks set o hP F ho
 have la := F.len_at hea
 have g0 : lt (len ea) 1 = false := by rw [F.lt_n la (k := 1) (m := 1) rfl, hl0]; simp
 obtain ⟨ix0, hix0⟩ := nm (([] : List Int).length * 1)
 have p00 : at' 1 ea 0 = some (ix0, [.int .i64 x]) := by rw [hix0]; exact F.get (pre := []) (i := 0) (show At 0 0 from rfl) hea hl0 (fun _ => rfl) (by decide)
 cbv
 rw [g0]; cbv
 rw [p00]; cbv
 refine loop_ind2 hP (σ := List Int × List Int × Int × Int) (fun s => [(0, R ea .sh), (2, I 0), (3, I s.2.2.1), (4, I s.2.2.2)]) (fun s => At s.2.2.2 s.2.1.length ∧ l = s.2.1 ++ s.1 ∧ maxGo s.2.2.1 s.1 = T) (fun s => s.1.length) (xs, [x], x, 1) rfl ⟨rfl, hl0, hT.symm⟩ ?_
 intro c1 Q1 hc1 hQ1
 rintro ⟨suf, pre, m, i⟩ ⟨hi, hl', hb⟩ ih
 simp only at hi hl' hb ih
 cbv
 cases suf with
 | nil =>
  rw [F.lt_f hi la (by simp [hl'])]; cbv
  rw [hQ1]; cbv
  rw [hQ]; cbv
  rw [← hr, ← hb]; rfl
 | cons y suf =>
  obtain ⟨ix, hix⟩ := nm (pre.length * 1)
  have p0 : at' 1 ea i = some (ix, [.int .i64 y]) := by rw [hix]; exact F.get hi hea hl' (fun _ => rfl) (by decide)
  rw [F.lt_t hi la (by simp [hl'])]; cbv
  rw [p0]; cbv
  refine ih (suf, pre ++ [y], mx m y, add .i64 i 1) ⟨at_len (F.inc hi (by simp [hl'] at hl; omega)) (by simp), by simp [hl'], ?_⟩ (by simp)
  simp only
  rw [F.mx]; exact hb
theorem ok359 (x : Ext) (b : Box) (hd : b.drops.length ≤ 1099511627776) (hs : b.strips.length ≤ 1099511627776) {f0 : Fl} (h0 : inFl f0 = true) : fix Tb md 359 [sExt x.tag (row fI x.body) f0, ⟨.val, [⟨.ptr () [.int .i64 b.limit, .row () (row fI b.drops), .row () (row fI b.strips), .bool b.lists], .sh⟩]⟩] = some ⟨[B (lost b x)], [], none⟩ := by
 obtain ⟨d, hd_⟩ := nm (hasI b.drops x.tag)
 obtain ⟨s, hs_⟩ := nm (hasI b.strips x.tag)
 obtain ⟨q, hq⟩ := nm (inR x.tag 1 3)
 obtain ⟨lb, hlb⟩ := nm (b.lists)
 rw [show lost b x = (d || (lb && !s && !q)) by rw [hd_, hs_, hq, hlb]; rfl, ← hlb]
 generalize hr : (⟨_, [], none⟩ : Ret) = r
 obtain ⟨ex, hex⟩ := nm (row fI x.body)
 obtain ⟨ed, hed⟩ := nm (row fI b.drops)
 obtain ⟨es, hes⟩ := nm (row fI b.strips)
 rw [← hex, ← hed, ← hes]
 refine fix_fn2 (fn := ir359) tb_359 rfl rfl (by decide) rfl ?_; intro Q hQ; simp only [shutArgs, shutS, List.map_cons, List.map_nil, ir359, shut_in h0, List.head?_nil, reduceCtorEq, if_false, sExt, sHello, sAnswer, sEdit, sDeal, sBox, sDialed, sKnown]
 intro add sub mul arith eq ne lt le gt ge neg conv mn mx not beq len at' ln bd cut app allS isNil mks set o hP F ho
 have c1 : o 302 [R ed (.sp 0 0), I x.tag] = some ⟨[B d], [], none⟩ := by rw [ho, hd_, hed]; exact ok302 _ _ hd rfl
 have c2 : o 302 [R es (.sp 0 0), I x.tag] = some ⟨[B s], [], none⟩ := by rw [ho, hs_, hes]; exact ok302 _ _ hs rfl
 have c3 : o 232 [I x.tag, I 1, I 3] = some ⟨[B q], [], none⟩ := by rw [ho, hq]; exact ok232 ..
 have nb : ∀ b, not b = !b := F.not
 cbv
 rw [c1]; cbv
 refine both (fun e1 => ?_) (fun e1 => ?_) <;> rw [e1] <;> cbv
 ·rw [hQ]; cbv
  rw [← hr, e1]; rfl
 refine both (fun e2 => ?_) (fun e2 => ?_) <;> rw [e2] <;> cbv
 ·rw [c2]; cbv
  refine both (fun e3 => ?_) (fun e3 => ?_) <;> rw [e3] <;> cbv
  ·rw [c3]; cbv
   rw [hQ]; cbv
   rw [← hr, nb q, e1, e2, F.not_t e3]; rfl
  ·rw [hQ]; cbv
   rw [← hr, e1, e2, F.not_f e3]; rfl
 ·rw [hQ]; cbv
  rw [← hr, e1, e2]; rfl
theorem ok310 (b : Box) (h : Hello) (hb : 0 ≤ b.limit) (hh : areVer h.versions = true) (hd : b.drops.length ≤ 1099511627776) (hs : b.strips.length ≤ 1099511627776) (hv : h.versions.length ≤ 1099511627776) (hx : h.exts.length ≤ 1099511627776) {f0 f1 f2 f3 : Fl} (q0 : inFl f0 = true) (q1 : inFl f1 = true) (q2 : inFl f2 = true) (q3 : inFl f3 = true) : fix Tb md 310 [sBox b.limit (row fI b.drops) (row fI b.strips) b.lists f0 f1, sHello (row fI h.versions) (row fExt h.exts) f2 f3] = some ⟨[B (overL b h || h.exts.any (lost b))], [], none⟩ := by
 obtain ⟨T, hT⟩ := nm (h.exts.any (lost b))
 obtain ⟨w, hw⟩ := nm (lastI h.versions)
 obtain ⟨t1, ht1⟩ := nm (decide (0 < b.limit))
 obtain ⟨t2, ht2⟩ := nm (decide (b.limit < w))
 rw [show (overL b h || h.exts.any (lost b)) = (t1 && t2 || T) by rw [ht1, ht2, hw, hT]; rfl]
 generalize hr : (⟨_, [], none⟩ : Ret) = r
 obtain ⟨ed, hed⟩ := nm (row fI b.drops)
 obtain ⟨es, hes⟩ := nm (row fI b.strips)
 obtain ⟨ev, hev⟩ := nm (row fI h.versions)
 obtain ⟨ex, hex⟩ := nm (row fExt h.exts)
 have k1 : fix Tb md 358 [R ev (.sp 0 0)] = some ⟨[I w], [], none⟩ := by
  rw [hev, hw]
  cases hvs : h.versions with
  | nil => rw [hvs] at hh; exact absurd hh (by decide)
  | cons x xs => rw [hvs] at hh hv; rw [← max_hel hh]; exact ok358 x xs hv rfl
 rw [← hed, ← hes, ← hev, ← hex]
 refine fix_fn2 (fn := ir310) tb_310 rfl rfl (by decide) rfl ?_; intro Q hQ; simp only [shutArgs, shutS, List.map_cons, List.map_nil, ir310, shut_in q0, shut_in q1, shut_in q2, shut_in q3, List.head?_nil, reduceCtorEq, if_false, sExt, sHello, sAnswer, sEdit, sDeal, sBox, sDialed, sKnown]
 intro add sub mul arith eq ne lt le gt ge neg conv mn mx not beq len at' ln bd cut app allS isNil mks set o hP F ho
 have c1 : o 358 [R ev (.sp 0 0)] = some ⟨[I w], [], none⟩ := by rw [ho]; exact k1
 have c2 : o 288 [R ex (.sp 0 0), ⟨.val, [⟨.fn 359 [.ptr () [.int .i64 b.limit, .row () ed, .row () es, .bool b.lists]], .sh⟩]⟩] = some ⟨[B T], [], none⟩ := by
  rw [ho, hT, hex, hed, hes]; exact ok288_1 359 rfl _ (lost b) h.exts hx (fun y _ => ok359 y b hd hs rfl) rfl
 have g1 : ne b.limit 0 = t1 := by
  rw [F.ne, ht1]; by_cases hz : b.limit = 0
  ·simp [hz]
  ·simp [hz]; omega
 have g2 : gt w b.limit = t2 := by rw [F.gt, ht2]
 cbv
 rw [g1]; cbv
 refine both (fun d1 => ?_) (fun d1 => ?_) <;> rw [d1] <;> cbv
 ·rw [c1]; cbv
  rw [g2]; cbv
  refine both (fun d2 => ?_) (fun d2 => ?_) <;> rw [d2] <;> cbv
  ·rw [hQ]; cbv
   rw [← hr, d1, d2]; rfl
  ·rw [c2]; cbv
   rw [hQ]; cbv
   rw [← hr, d1, d2]; rfl
 ·rw [c2]; cbv
  rw [hQ]; cbv
  rw [← hr, d1]; rfl
theorem ok311 (n : Int) (b : Box) (hs : b.strips.length ≤ 1099511627776) : fix Tb md 311 [I n, ⟨.val, [⟨.ptr () [.int .i64 b.limit, .row () (row fI b.drops), .row () (row fI b.strips), .bool b.lists], .sh⟩]⟩] = some ⟨[B (!hasI b.strips n)], [], none⟩ := by
 obtain ⟨v, hv⟩ := nm (hasI b.strips n)
 rw [← hv]
 generalize hr : (⟨_, [], none⟩ : Ret) = r
 obtain ⟨ed, hed⟩ := nm (row fI b.drops)
 obtain ⟨es, hes⟩ := nm (row fI b.strips)
 rw [← hed, ← hes]
 refine fix_fn2 (fn := ir311) tb_311 rfl rfl (by decide) rfl ?_; intro Q hQ; simp only [shutArgs, shutS, List.map_cons, List.map_nil, ir311, List.head?_nil, reduceCtorEq, if_false, sExt, sHello, sAnswer, sEdit, sDeal, sBox, sDialed, sKnown]
 intro add sub mul arith eq ne lt le gt ge neg conv mn mx not beq len at' ln bd cut app allS isNil mks set o hP F ho
 have c1 : o 302 [R es (.sp 0 0), I n] = some ⟨[B v], [], none⟩ := by rw [ho, hv, hes]; exact ok302 _ _ hs rfl
 cbv
 rw [c1]; cbv
 rw [hQ]; cbv
 rw [← hr, F.not]
theorem ok69 (limit : Int) (drops strips : List Int) (lists : Bool) (hd : drops.length ≤ 1099511627776) (hs : strips.length ≤ 1099511627776) {f0 f1 : Fl} (h0 : inFl f0 = true) (h1 : inFl f1 = true) :
  fix Tb md 69 [sBox limit (row fI drops) (row fI strips) lists f0 f1] = some ⟨[B (isBox limit drops strips)], [], none⟩ := by
 refine fix_fn (fn := ir69) tb_69 rfl rfl (by decide) rfl ?_; simp only [shutArgs, shutS, List.map_cons, List.map_nil, ir69, shut_in h0, shut_in h1, List.head?_nil, reduceCtorEq, if_false, sExt, sHello, sAnswer, sEdit, sDeal, sBox, sDialed, sKnown]
 generalize hr : (⟨_, [], none⟩ : Ret) = r
 obtain ⟨ed, hed⟩ := nm (row fI drops)
 obtain ⟨es, hes⟩ := nm (row fI strips)
 rw [← hed, ← hes]
 obtain ⟨v1, hv1⟩ := nm (inR limit 0 9)
 obtain ⟨v2, hv2⟩ := nm (bytes drops)
 obtain ⟨v3, hv3⟩ := nm (bytes strips)
 intro add sub mul arith eq ne lt le gt ge neg conv mn mx not beq len at' ln bd cut app allS isNil mks set o hP F ho
 have ld := F.len_at hed
 have ls := F.len_at hes
 have c1 : o 232 [I limit, I 0, I 9] = some ⟨[B v1], [], none⟩ := by rw [ho, hv1]; exact ok232 ..
 have c2 : o 233 [R ed (.sp 0 0), I 0, I 255] = some ⟨[B v2], [], none⟩ := by rw [ho, hv2, hed]; exact ok233 _ _ _ hd rfl
 have c3 : o 233 [R es (.sp 0 0), I 0, I 255] = some ⟨[B v3], [], none⟩ := by rw [ho, hv3, hes]; exact ok233 _ _ _ hs rfl
 cbv
 repeat' (first | (rw [c1]; cbv) | (rw [c2]; cbv) | (rw [c3]; cbv) | (refine both (fun c => ?_) (fun c => ?_) <;> (try rw [c]) <;> (try cbv)))
 all_goals (clear hP c1 c2 c3 ho; unfold At at ld ls; try simp only [F.eq, F.ne, F.le, F.lt, F.ge, F.gt, F.not, F.beq, ld, ls] at *; clear F; subst hr)
 all_goals (simp_all [isBox] <;> (intros; omega))
theorem ok174r (b : Box) (h : Hello) (bd1 : b.drops.length ≤ 1073741824) (bs1 : b.strips.length ≤ 1073741824) (mh : h.Mid) {f0 f1 f2 f3 : Fl} (q0 : inFl f0 = true) (q1 : inFl f1 = true) (q2 : inFl f2 = true) (q3 : inFl f3 = true) (r : Ret) (rA : pbOk b h = true → (⟨[sHello (row fI h.versions) (row fExt (sel (stripE b.strips) idE h.exts)) (.ow false) (.ow false), B true], [], none⟩ : Ret) = r) (rC : pbOk b h = false → (⟨[sHello [] [] .nl .nl, B false], [], none⟩ : Ret) = r) : fix Tb md 174 [sBox b.limit (row fI b.drops) (row fI b.strips) b.lists f0 f1, sHello (row fI h.versions) (row fExt h.exts) f2 f3] = some r := by
 have mh' := mh
 unfold Hello.Mid at mh'
 have wh : ∀ y ∈ h.exts, y.body.length ≤ 1099511627776 := fun y hy => Nat.le_trans (show y.body.length ≤ 1073741824 from mh'.2.2 y hy) (by decide)
 obtain ⟨u1, hu1⟩ := nm (isBox b.limit b.drops b.strips)
 obtain ⟨u2, hu2⟩ := nm (isHel h)
 obtain ⟨u3, hu3⟩ := nm ((overL b h || h.exts.any (lost b)))
 have hp : pbOk b h = (u1 && u2 && !u3) := by rw [hu1, hu2, hu3, pbOk]; simp [Bool.and_assoc]
 rw [hp] at rA rC
 have k3 : u1 = true → u2 = true → fix Tb md 310 [sBox b.limit (row fI b.drops) (row fI b.strips) b.lists (.sp 0 1) (.sp 0 2), sHello (row fI h.versions) (row fExt h.exts) (.sp 1 0) (.sp 1 1)] = some ⟨[B u3], [], none⟩ := fun e1 e2 => by
  rw [hu3]
  rw [hu1] at e1; rw [hu2] at e2
  refine ok310 b h ?_ ?_ (by omega) (by omega) (by omega) (by omega) rfl rfl rfl rfl
  ·unfold isBox at e1; simp only [Bool.and_eq_true] at e1
   have := e1.1.1.1.1; unfold inR at this; simp at this; exact this.1
  ·unfold isHel at e2; simp only [Bool.and_eq_true] at e2; exact e2.1
 obtain ⟨ed, hed⟩ := nm (row fI b.drops)
 obtain ⟨es, hes⟩ := nm (row fI b.strips)
 obtain ⟨ev, hev⟩ := nm (row fI h.versions)
 obtain ⟨ex, hex⟩ := nm (row fExt h.exts)
 obtain ⟨ez, hez⟩ := nm (row fExt (sel (stripE b.strips) idE h.exts))
 rw [← hev, ← hez] at rA
 rw [← hed, ← hes, ← hev, ← hex] at k3 ⊢
 refine fix_fn2 (fn := ir174) tb_174 rfl rfl (by decide) rfl ?_; intro Q hQ; simp only [shutArgs, shutS, List.map_cons, List.map_nil, ir174, shut_in q0, shut_in q1, shut_in q2, shut_in q3, List.head?_nil, reduceCtorEq, if_false, sExt, sHello, sAnswer, sEdit, sDeal, sBox, sDialed, sKnown]
 intro add sub mul arith eq ne lt le gt ge neg conv mn mx not beq len at' ln bd cut app allS isNil mks set o hP F ho
 have c1 : o 69 [sBox b.limit ed es b.lists (.sp 0 1) (.sp 0 2)] = some ⟨[B u1], [], none⟩ := by rw [ho, hu1, hed, hes]; exact ok69 _ _ _ _ (by omega) (by omega) rfl rfl
 have c2 : o 113 [sHello ev ex (.sp 0 0) (.sp 0 1)] = some ⟨[B u2], [], none⟩ := by rw [ho, hu2, hev, hex]; exact ok113 _ (by omega) (by omega) wh rfl rfl
 have c3 : u1 = true → u2 = true → o 310 [sBox b.limit ed es b.lists (.sp 0 1) (.sp 0 2), sHello ev ex (.sp 1 0) (.sp 1 1)] = some ⟨[B u3], [], none⟩ := by rw [ho]; exact k3
 have c4 : o 299 [R ev (.sp 0 0)] = some ⟨[R ev (.ow false)], [], none⟩ := by rw [ho, hev]; exact ok299 _ (by omega) rfl
 have c5 : o 264 [R ex (.sp 0 0), ⟨.val, [⟨.fn 311 [.ptr () [.int .i64 b.limit, .row () ed, .row () es, .bool b.lists]], .sh⟩]⟩] = some ⟨[R ez (.ow false)], [], none⟩ := by
  rw [ho, hez, hex, hed, hes]
  exact ok264_1 311 rfl _ (fun n => !hasI b.strips n) h.exts mh'.2.1 wh (fun x _ => ok311 x.tag b (by omega)) rfl
 cbv
 rw [c1]; cbv
 refine both (fun d1 => ?_) (fun d1 => ?_) <;> rw [d1] <;> cbv
 ·rw [hQ]; cbv
  exact congrArg some (rC (by rw [F.not_t d1]; rfl))
 rw [c2]; cbv
 refine both (fun d2 => ?_) (fun d2 => ?_) <;> rw [d2] <;> cbv
 ·rw [hQ]; cbv
  exact congrArg some (rC (by rw [F.not_f d1, F.not_t d2]; rfl))
 have c3' := c3 (F.not_f d1) (F.not_f d2)
 rw [c3']; cbv
 refine both (fun d3 => ?_) (fun d3 => ?_) <;> rw [d3] <;> cbv
 ·rw [hQ]; cbv
  exact congrArg some (rC (by rw [F.not_f d1, F.not_f d2, d3]; rfl))
 rw [c4]; cbv
 rw [c5]; cbv
 rw [hQ]; cbv
 exact congrArg some (rA (by rw [F.not_f d1, F.not_f d2, d3]; rfl))
theorem ok174 (b : Box) (h : Hello) (bd1 : b.drops.length ≤ 1073741824) (bs1 : b.strips.length ≤ 1073741824) (mh : h.Mid) {f0 f1 f2 f3 : Fl} (q0 : inFl f0 = true) (q1 : inFl f1 = true) (q2 : inFl f2 = true) (q3 : inFl f3 = true) :
  fix Tb md 174 [sBox b.limit (row fI b.drops) (row fI b.strips) b.lists f0 f1, sHello (row fI h.versions) (row fExt h.exts) f2 f3] = some ⟨[sHello (row fI (pbV b h).versions) (row fExt (pbV b h).exts) (.ow false) (.ow false), B (pbOk b h)], [], none⟩ ∨
  ((pbV b h).versions = [] ∧ (pbV b h).exts = [] ∧ fix Tb md 174 [sBox b.limit (row fI b.drops) (row fI b.strips) b.lists f0 f1, sHello (row fI h.versions) (row fExt h.exts) f2 f3] = some ⟨[sHello [] [] .nl .nl, B (pbOk b h)], [], none⟩) := by
 have hmain := fun r a c => ok174r b h bd1 bs1 mh q0 q1 q2 q3 r a c
 unfold pbV
 cases ho : pbOk b h with
 | false => exact .inr ⟨rfl, rfl, hmain _ (fun q => by rw [ho] at q; cases q) (fun _ => rfl)⟩
 | true => exact .inl (hmain _ (fun _ => rfl) (fun q => by rw [ho] at q; cases q))
theorem ok347 (n : Int) : fix Tb md 347 [I n] = some ⟨[B true], [], none⟩ := by
 generalize hr : (⟨_, [], none⟩ : Ret) = r
 refine fix_fn2 (fn := ir347) tb_347 rfl rfl (by decide) rfl ?_; intro Q hQ; simp only [shutArgs, shutS, List.map_cons, List.map_nil, ir347, List.head?_nil, reduceCtorEq, if_false, sExt, sHello, sAnswer, sEdit, sDeal, sBox, sDialed, sKnown]
 intro add sub mul arith eq ne lt le gt ge neg conv mn mx not beq len at' ln bd cut app allS isNil mks set o hP F ho
 cbv
 rw [hQ]; cbv
 exact congrArg some hr
theorem ok266 (l : List Ext) (hl : l.length ≤ 1073741824) (w : ∀ y ∈ l, y.body.length ≤ 1099511627776) {f0 : Fl} (h0 : inFl f0 = true) : fix Tb md 266 [R (row fExt l) f0] = some ⟨[R (row fExt l) (.ow false)], [], none⟩ := by
 obtain ⟨ea, hea⟩ := nm (row fExt l)
 rw [← hea]
 generalize hr : (⟨_, [], none⟩ : Ret) = r
 refine fix_fn2 (fn := ir266) tb_266 rfl rfl (by decide) rfl ?_; intro Q hQ; simp only [shutArgs, shutS, List.map_cons, List.map_nil, ir266, shut_in h0, List.head?_nil, reduceCtorEq, if_false, sExt, sHello, sAnswer, sEdit, sDeal, sBox, sDialed, sKnown]
 intro add sub mul arith eq ne lt le gt ge neg conv mn mx not beq len at' ln bd cut app allS isNil mks set o hP F ho
 have c1 : o 264 [R ea (.sp 0 0), ⟨.val, [⟨.fn 347 [], .sh⟩]⟩] = some ⟨[R ea (.ow false)], [], none⟩ := by
  rw [ho, hea]
  have h := ok264_0 347 rfl (fun _ => true) l hl w (fun x _ => ok347 x.tag) (f0 := .sp 0 0) rfl
  rw [show sel (onTag fun _ => true) idE l = l by rw [sel_idE]; exact List.filter_eq_self.2 (fun _ _ => rfl)] at h
  exact h
 cbv
 rw [c1]; cbv
 rw [hQ]; cbv
 exact congrArg some hr
theorem ok261 (h : Hello) (mh : h.Mid) {f0 f1 : Fl} (q0 : inFl f0 = true) (q1 : inFl f1 = true) : fix Tb md 261 [sHello (row fI h.versions) (row fExt h.exts) f0 f1] = some ⟨[sHello (row fI h.versions) (row fExt h.exts) (.ow false) (.ow false)], [], none⟩ := by
 have mh' := mh
 unfold Hello.Mid at mh'
 obtain ⟨ev, hev⟩ := nm (row fI h.versions)
 obtain ⟨ex, hex⟩ := nm (row fExt h.exts)
 rw [← hev, ← hex]
 generalize hr : (⟨_, [], none⟩ : Ret) = r
 refine fix_fn2 (fn := ir261) tb_261 rfl rfl (by decide) rfl ?_; intro Q hQ; simp only [shutArgs, shutS, List.map_cons, List.map_nil, ir261, shut_in q0, shut_in q1, List.head?_nil, reduceCtorEq, if_false, sExt, sHello, sAnswer, sEdit, sDeal, sBox, sDialed, sKnown]
 intro add sub mul arith eq ne lt le gt ge neg conv mn mx not beq len at' ln bd cut app allS isNil mks set o hP F ho
 have c1 : o 266 [R ex (.sp 0 0)] = some ⟨[R ex (.ow false)], [], none⟩ := by rw [ho, hex]; exact ok266 _ mh'.2.1 (fun y hy => Nat.le_trans (show y.body.length ≤ 1073741824 from mh'.2.2 y hy) (by decide)) rfl
 cbv
 rw [show allS ev = true from F.scal hev (fun _ => rfl)]; cbv
 rw [F.app_nil hev (fun _ => rfl) (Nat.le_trans mh'.1 (by decide))]; cbv
 rw [c1]; cbv
 rw [hQ]; cbv
 exact congrArg some hr
def ppGo : List Box → Hello → Hello × Bool
 | [], h => (h, true)
 | b :: bs, h => if pbOk b h then ppGo bs (pbV b h) else (⟨[], []⟩, false)
def pp (path : List Box) (h : Hello) : Hello × Bool := if isHel h && decide (path.length ≤ 4) then ppGo path h else (⟨[], []⟩, false)
def ppV (path : List Box) (h : Hello) : Hello := (pp path h).1
def ppOk (path : List Box) (h : Hello) : Bool := (pp path h).2
theorem ppGo_mid : ∀ (path : List Box) {h : Hello}, h.Mid → (ppGo path h).1.Mid
 | [], _, m => m
 | b :: bs, h, m => by
  unfold ppGo
  split
  ·exact ppGo_mid bs (pbV_mid m)
  ·exact ⟨by simp, by simp, by simp⟩
theorem ppV_mid {path : List Box} {h : Hello} (m : h.Mid) : (ppV path h).Mid := by
 unfold ppV pp
 split
 ·exact ppGo_mid path m
 ·exact ⟨by simp, by simp, by simp⟩
theorem ppGo_cases : ∀ (path : List Box) (h : Hello), (ppGo path h).2 = true ∨ ppGo path h = (⟨[], []⟩, false)
 | [], _ => .inl rfl
 | b :: bs, h => by
  unfold ppGo
  split
  ·exact ppGo_cases bs _
  ·exact .inr rfl
theorem pp_cases (path : List Box) (h : Hello) : (pp path h).2 = true ∨ pp path h = (⟨[], []⟩, false) := by
 unfold pp
 split
 ·exact ppGo_cases _ _
 ·exact .inr rfl
theorem ok182r (path : List Box) (h : Hello) (pl : path.length ≤ 1073741824) (pm : ∀ y ∈ path, y.Mid) (mh : h.Mid) {f0 f1 f2 : Fl} (q0 : inFl f0 = true) (q1 : inFl f1 = true) (q2 : inFl f2 = true) (r : Ret) (rA : ∀ z, pp path h = (z, true) → (⟨[sHello (row fI z.versions) (row fExt z.exts) (.ow false) (.ow false), B true], [], none⟩ : Ret) = r) (rC : pp path h = (⟨[], []⟩, false) → (⟨[sHello [] [] .nl .nl, B false], [], none⟩ : Ret) = r) :
  fix Tb md 182 [R (row fBox path) f0, sHello (row fI h.versions) (row fExt h.exts) f1 f2] = some r := by
 have mh' := mh
 unfold Hello.Mid at mh'
 have wh : ∀ y ∈ h.exts, y.body.length ≤ 1099511627776 := fun y hy => Nat.le_trans (show y.body.length ≤ 1073741824 from mh'.2.2 y hy) (by decide)
 obtain ⟨T, hT⟩ := nm (ppGo path h)
 obtain ⟨u, hu⟩ := nm (isHel h)
 obtain ⟨k4, hk4⟩ := nm (decide (path.length ≤ 4))
 have hp : pp path h = if (u && k4) = true then T else (⟨[], []⟩, false) := by rw [hu, hk4, hT]; rfl
 rw [hp] at rA rC
 clear hp
 obtain ⟨ep, hep⟩ := nm (row fBox path)
 obtain ⟨dv, hdv⟩ := nm (row fI h.versions)
 obtain ⟨dx, hdx⟩ := nm (row fExt h.exts)
 rw [← hep, ← hdv, ← hdx]
 refine fix_fn2 (fn := ir182) tb_182 rfl rfl (by decide) rfl ?_; intro Q hQ; simp only [shutArgs, shutS, List.map_cons, List.map_nil, ir182, shut_in q0, shut_in q1, shut_in q2, List.head?_nil, reduceCtorEq, if_false, sExt, sHello, sAnswer, sEdit, sDeal, sBox, sDialed, sKnown]
 intro add sub mul arith eq ne lt le gt ge neg conv mn mx not beq len at' ln bd cut app allS isNil mks set o hP F ho
 have lp := F.len_at hep
 have c1 : o 113 [sHello dv dx (.sp 0 0) (.sp 0 1)] = some ⟨[B u], [], none⟩ := by rw [ho, hu, hdv, hdx]; exact ok113 _ (by omega) (by omega) wh rfl rfl
 have g1 : gt (len ep) 4 = not k4 := by rw [F.gt_n lp (k := 4) (m := 4) rfl, F.not, hk4, Bool.eq_iff_iff]; simp only [decide_eq_true_eq, Bool.not_eq_true', decide_eq_false_iff_not]; omega
 have c2 : o 261 [sHello dv dx (.sp 0 0) (.sp 0 1)] = some ⟨[sHello dv dx (.ow false) (.ow false)], [], none⟩ := by rw [ho, hdv, hdx]; exact ok261 h mh rfl rfl
 cbv
 rw [c1]; cbv
 refine both (fun d1 => ?_) (fun d1 => ?_) <;> rw [d1] <;> cbv
 ·rw [hQ]; cbv
  exact congrArg some (rC (by rw [F.not_t d1]; rfl))
 rw [g1]; cbv
 refine both (fun d2 => ?_) (fun d2 => ?_) <;> rw [d2] <;> cbv
 ·rw [hQ]; cbv
  exact congrArg some (rC (by rw [F.not_t d2, Bool.and_false]; rfl))
 rw [F.not_f d1, F.not_f d2, Bool.true_and, if_pos rfl] at rA rC
 rw [c2]; cbv
 refine loop_ind2 hP (σ := List Box × List Box × Int × Option (Hello × List (List V) × List (List V))) (fun s => match s.2.2.2 with
   | none => [(0, R ep .sh), (1, sHello dv dx .sh .sh), (3, ⟨.ptr 43 0, []⟩), (4, ⟨.ptr 44 0, []⟩), (5, B false), (6, ⟨.ptr 46 0, []⟩), (7, B false), (8, I s.2.2.1), (43, ⟨.box (), [⟨.row () dv, .sh⟩, ⟨.row () dx, .sh⟩]⟩), (44, ⟨.box (), [⟨.row () [], .nl⟩, ⟨.row () [], .nl⟩]⟩), (46, ⟨.box (), [⟨.row () [], .nl⟩, ⟨.row () [], .nl⟩]⟩)]
   | some j => [(0, R ep .sh), (1, sHello dv dx .sh .sh), (3, ⟨.ptr 43 0, []⟩), (4, ⟨.ptr 44 0, []⟩), (5, B false), (6, ⟨.ptr 46 0, []⟩), (7, B true), (8, I s.2.2.1), (43, ⟨.box (), [⟨.row () dv, .sh⟩, ⟨.row () dx, .sh⟩]⟩), (44, ⟨.box (), [⟨.row () [], .nl⟩, ⟨.row () [], .nl⟩]⟩), (46, ⟨.box (), [⟨.row () j.2.1, .ow false⟩, ⟨.row () j.2.2, .ow false⟩]⟩)]) (fun s => At s.2.2.1 s.2.1.length ∧ path = s.2.1 ++ s.1 ∧ (match s.2.2.2 with | none => T = (⟨[], []⟩, false) | some j => ppGo s.1 j.1 = T ∧ j.1.Mid ∧ j.2.1 = row fI j.1.versions ∧ j.2.2 = row fExt j.1.exts)) (fun s => s.1.length) (path, [], 0, some (h, dv, dx)) rfl ⟨rfl, rfl, hT.symm, mh, hdv, hdx⟩ ?_
 intro c9 Q1 hc9 hQ1
 rintro ⟨suf, pre, i, e⟩ ⟨hi, hl', hz⟩ ih
 simp only at hi hl' hz ih
 cases e with
 | none =>
  cbv
  cases suf with
  | nil =>
   rw [F.lt_f hi lp (by simp [hl'])]; cbv
   rw [hQ1]; cbv
   rw [hQ]; cbv
   exact congrArg some (rC hz)
  | cons x suf =>
   rw [F.lt_t hi lp (by simp [hl'])]; cbv
   rw [hQ1]; cbv
   rw [hQ]; cbv
   exact congrArg some (rC hz)
 | some j =>
  obtain ⟨cur, ev, ex⟩ := j
  obtain ⟨z1, z2, z3, z4⟩ := hz
  simp only at z1 z2 z3 z4
  have z2' := z2
  unfold Hello.Mid at z2'
  cases suf with
  | nil =>
   cbv
   rw [F.lt_f hi lp (by simp [hl'])]; cbv
   rw [hQ1]; cbv
   rw [hQ]; cbv
   rw [z3, z4]
   exact congrArg some (rA cur (by rw [← z1]; rfl))
  | cons x suf =>
   obtain ⟨ix, hix⟩ := nm (pre.length * 4)
   obtain ⟨e1, he1⟩ := nm (row fI x.drops)
   obtain ⟨e2, he2⟩ := nm (row fI x.strips)
   have hx := pm x (by rw [hl']; simp)
   unfold Box.Mid at hx
   have hi' : At (add .i64 i 1) (pre ++ [x]).length := at_len (F.inc hi (by rw [hl'] at pl; simp at pl; omega)) (by simp)
   have hl2 : path = (pre ++ [x]) ++ suf := by rw [hl']; simp
   have p0 : at' 4 ep i = some (ix, [.int .i64 x.limit, .row () e1, .row () e2, .bool x.lists]) := by rw [hix, he1, he2]; exact F.get hi hep hl' (fun _ => rfl) (by decide)
   cases hok : pbOk x cur with
   | true =>
    obtain ⟨nx, hnx⟩ := nm (row fExt (sel (stripE x.strips) idE cur.exts))
    have hV : pbV x cur = ⟨cur.versions, sel (stripE x.strips) idE cur.exts⟩ := by rw [pbV, hok]; rfl
    have c3 : o 174 [sBox x.limit e1 e2 x.lists (.sp 0 1) (.sp 0 2), sHello ev ex (.sp 1 0) (.sp 1 1)] = some ⟨[sHello ev nx (.ow false) (.ow false), B true], [], none⟩ := by
     rw [ho, he1, he2, z3, z4, hnx]
     exact ok174r x cur (by omega) (by omega) z2 rfl rfl rfl rfl _ (fun _ => rfl) (fun q => by rw [hok] at q; cases q)
    cbv
    rw [F.lt_t hi lp (by simp [hl'])]; cbv
    rw [p0]; cbv
    rw [c3]; cbv
    refine ih (suf, pre ++ [x], add .i64 i 1, some (pbV x cur, ev, nx)) ⟨hi', hl2, ?_, pbV_mid z2, ?_, ?_⟩ (by simp)
    ·simp only; rw [← z1, ppGo, hok, if_pos rfl]
    ·simp only; rw [hV, z3]
    ·simp only; rw [hV, hnx]
   | false =>
    have c3 : o 174 [sBox x.limit e1 e2 x.lists (.sp 0 1) (.sp 0 2), sHello ev ex (.sp 1 0) (.sp 1 1)] = some ⟨[sHello [] [] .nl .nl, B false], [], none⟩ := by
     rw [ho, he1, he2, z3, z4]
     exact ok174r x cur (by omega) (by omega) z2 rfl rfl rfl rfl _ (fun q => by rw [hok] at q; cases q) (fun _ => rfl)
    cbv
    rw [F.lt_t hi lp (by simp [hl'])]; cbv
    rw [p0]; cbv
    rw [c3]; cbv
    refine ih (suf, pre ++ [x], add .i64 i 1, none) ⟨hi', hl2, ?_⟩ (by simp)
    simp only; rw [← z1, ppGo, hok]; rfl
theorem ok182 (path : List Box) (h : Hello) (pl : path.length ≤ 1073741824) (pm : ∀ y ∈ path, y.Mid) (mh : h.Mid) {f0 f1 f2 : Fl} (q0 : inFl f0 = true) (q1 : inFl f1 = true) (q2 : inFl f2 = true) :
  fix Tb md 182 [R (row fBox path) f0, sHello (row fI h.versions) (row fExt h.exts) f1 f2] = some ⟨[sHello (row fI (ppV path h).versions) (row fExt (ppV path h).exts) (.ow false) (.ow false), B (ppOk path h)], [], none⟩ ∨
  ((ppV path h).versions = [] ∧ (ppV path h).exts = [] ∧ fix Tb md 182 [R (row fBox path) f0, sHello (row fI h.versions) (row fExt h.exts) f1 f2] = some ⟨[sHello [] [] .nl .nl, B (ppOk path h)], [], none⟩) := by
 have hmain := fun r a c => ok182r path h pl pm mh q0 q1 q2 r a c
 unfold ppV ppOk
 rcases hq : pp path h with ⟨z, k⟩
 rcases pp_cases path h with h1 | h1
 ·rw [hq] at h1
  simp only at h1
  subst h1
  exact .inl (hmain _ (fun z' q => by rw [hq] at q; cases q; rfl) (fun q => by rw [hq] at q; cases q))
 ·rw [hq] at h1; cases h1
  exact .inr ⟨rfl, rfl, hmain _ (fun z' q => by rw [hq] at q; cases q) (fun _ => rfl)⟩
theorem ok77 (l : List Int) (hl : l.length ≤ 1099511627776) {f0 : Fl} (h0 : inFl f0 = true) : fix Tb md 77 [R (row fI l) f0] = some ⟨[sHello (row fI l) [] (.ow false) .nl], [], none⟩ := by
 refine fix_fn (fn := ir77) tb_77 rfl rfl (by decide) rfl ?_; simp only [shutArgs, shutS, List.map_cons, List.map_nil, ir77, shut_in h0, List.head?_nil, reduceCtorEq, if_false, sExt, sHello, sAnswer, sEdit, sDeal, sBox, sDialed, sKnown]
 generalize hr : (⟨_, [], none⟩ : Ret) = r
 obtain ⟨ea, hea⟩ := nm (row fI l)
 rw [← hea] at hr ⊢
 intro add sub mul arith eq ne lt le gt ge neg conv mn mx not beq len at' ln bd cut app allS isNil mks set o hP F ho
 cbv
 rw [show allS ea = true from F.scal hea (fun _ => rfl)]; cbv
 rw [F.app_nil hea (fun _ => rfl) hl]; cbv
 exact congrArg some hr
def iop (path : List Box) (versions : List Int) : Bool := areVer versions && ppOk path ⟨versions.take 1, []⟩
theorem ok167 (path : List Box) (versions : List Int) (pl : path.length ≤ 1073741824) (pm : ∀ y ∈ path, y.Mid) (hv : versions.length ≤ 1073741824) {f0 f1 : Fl} (q0 : inFl f0 = true) (q1 : inFl f1 = true) : fix Tb md 167 [R (row fBox path) f0, R (row fI versions) f1] = some ⟨[B (iop path versions)], [], none⟩ := by
 obtain ⟨u, hu⟩ := nm (areVer versions)
 obtain ⟨w, hw⟩ := nm (ppOk path ⟨versions.take 1, []⟩)
 rw [show iop path versions = (u && w) by rw [hu, hw]; rfl]
 generalize hr : (⟨_, [], none⟩ : Ret) = r
 have rA : u = true → (⟨[B w], [], none⟩ : Ret) = r := fun h => by rw [← hr, h]; rfl
 have rC : u = false → (⟨[B false], [], none⟩ : Ret) = r := fun h => by rw [← hr, h]; rfl
 clear hr
 have hk := ok182 path ⟨versions.take 1, []⟩ pl pm ⟨by simp; omega, by simp, by simp⟩ (f0 := .sp 0 0) (f1 := .sp 1 0) (f2 := .nl) rfl rfl rfl
 rw [show row fExt (⟨versions.take 1, []⟩ : Hello).exts = [] from rfl, show (⟨versions.take 1, []⟩ : Hello).versions = versions.take 1 from rfl, ← hw] at hk
 obtain ⟨ep, hep⟩ := nm (row fBox path)
 obtain ⟨ev, hev⟩ := nm (row fI versions)
 obtain ⟨e1, he1⟩ := nm (row fI (versions.take 1))
 rw [← hep, ← he1] at hk
 rw [← hep, ← hev]
 obtain ⟨V1, hV1⟩ := nm (row fI (ppV path ⟨versions.take 1, []⟩).versions)
 obtain ⟨X1, hX1⟩ := nm (row fExt (ppV path ⟨versions.take 1, []⟩).exts)
 rw [← hV1, ← hX1] at hk
 refine fix_fn2 (fn := ir167) tb_167 rfl rfl (by decide) rfl ?_; intro Q hQ; simp only [shutArgs, shutS, List.map_cons, List.map_nil, ir167, shut_in q0, shut_in q1, List.head?_nil, reduceCtorEq, if_false, sExt, sHello, sAnswer, sEdit, sDeal, sBox, sDialed, sKnown]
 intro add sub mul arith eq ne lt le gt ge neg conv mn mx not beq len at' ln bd cut app allS isNil mks set o hP F ho
 have c1 : o 255 [R ev (.sp 0 0)] = some ⟨[B u], [], none⟩ := by rw [ho, hu, hev]; exact ok255 _ (by omega) rfl
 have c2 : o 77 [R e1 (.sp 0 0)] = some ⟨[sHello e1 [] (.ow false) .nl], [], none⟩ := by rw [ho, he1]; exact ok77 _ (by simp; omega) rfl
 obtain ⟨one, hone⟩ := nm (1)
 have p1 : u = true → bd (ln ev) 1 = some one := fun h => by
  rw [hu] at h
  unfold areVer at h
  simp only [Bool.and_eq_true, decide_eq_true_eq] at h
  rw [F.ln' hev, hone]; exact F.bd' (show At 1 1 from rfl) h.2
 have p2 : cut 1 ev one 0 = some e1 := by rw [F.cut' hev (fun _ => rfl), he1, hone]; rfl
 cbv
 rw [c1]; cbv
 refine both (fun d1 => ?_) (fun d1 => ?_) <;> rw [d1] <;> cbv
 ·rw [hQ]; cbv
  exact congrArg some (rC (F.not_t d1))
 have p1' := p1 (F.not_f d1)
 rw [p1']; cbv
 rw [p2]; cbv
 rw [c2]; cbv
 rcases hk with hk | ⟨n1, n2, hk⟩
 ·have c3 : o 182 [R ep (.sp 0 0), sHello e1 [] (.sp 1 0) .nl] = some ⟨[sHello V1 X1 (.ow false) (.ow false), B w], [], none⟩ := by rw [ho]; exact hk
  rw [c3]; cbv
  rw [hQ]; cbv
  exact congrArg some (rA (F.not_f d1))
 ·have c3 : o 182 [R ep (.sp 0 0), sHello e1 [] (.sp 1 0) .nl] = some ⟨[sHello [] [] .nl .nl, B w], [], none⟩ := by rw [ho]; exact hk
  rw [c3]; cbv
  rw [hQ]; cbv
  exact congrArg some (rA (F.not_f d1))
def deadV (path : List Box) (v : Int) : Bool := !ppOk path ⟨[v], []⟩
def lvs (path : List Box) (versions : List Int) : List Int := if areVer versions then sel (deadV path) idI versions else []
theorem lvs_len {path : List Box} {versions : List Int} : (lvs path versions).length ≤ versions.length := by
 unfold lvs; split
 ·exact sel_len
 ·simp
theorem ver_mem : ∀ (suf pre : List Int), verGo pre suf = true → ∀ x ∈ suf, inR x 1 9 = true
 | [], _, _ => by simp
 | y :: suf, pre, h => by
  unfold verGo at h
  simp only [Bool.and_eq_true] at h
  intro x hx
  rcases List.mem_cons.1 hx with rfl | hx
  ·exact h.1.1
  ·exact ver_mem suf _ h.2 x hx
theorem iop_one {path : List Box} {versions : List Int} (h : areVer versions = true) {x : Int} (hx : x ∈ versions) : iop path [x] = ppOk path ⟨[x], []⟩ := by
 unfold areVer at h
 simp only [Bool.and_eq_true] at h
 have h1 := ver_mem _ _ h.1 x hx
 unfold iop areVer verGo verGo
 simp [h1]
end Go.Vm
