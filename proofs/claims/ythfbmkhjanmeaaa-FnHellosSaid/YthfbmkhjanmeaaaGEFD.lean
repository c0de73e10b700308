/- What the functions answer. -/
import Derived.Test.YthfbmkhjanmeaaaGETab
import Derived.Test.YthfbmkhjanmeaaaGEFA
import Derived.Test.YthfbmkhjanmeaaaGEFB
import Derived.Test.YthfbmkhjanmeaaaGEFC
set_option maxHeartbeats 4000000
set_option maxRecDepth 10000
set_option linter.unusedVariables false
set_option linter.unusedSimpArgs false
namespace Go.Vm
def onTag (p : Int → Bool) (e : Ext) : Bool := p e.tag
theorem ok264_0 (g : Nat) (hg : md g = []) (p : Int → Bool) (l : List Ext) (hl : l.length ≤ 1073741824) (w : ∀ y ∈ l, y.body.length ≤ 1099511627776) (hp : ∀ x ∈ l, fix Tb md g [I x.tag] = some ⟨[B (p x.tag)], [], none⟩) {f0 : Fl} (h0 : inFl f0 = true) : fix Tb md 264 [R (row fExt l) f0, ⟨.val, [⟨.fn g [], .sh⟩]⟩] = some ⟨[R (row fExt (sel (onTag p) idE l)) (.ow false)], [], none⟩ := by
 generalize hm_ : md = m_ at hg hp ⊢
 obtain ⟨et, het⟩ := nm (row fExt (sel (onTag p) idE l))
 rw [← het]
 generalize hr : (⟨_, [], none⟩ : Ret) = r
 obtain ⟨ea, hea⟩ := nm (row fExt l)
 rw [← hea]
 refine fix_fn2 (fn := ir264) tb_264 rfl rfl (by decide) rfl ?_; intro Q hQ; simp only [shutArgs, shutS, List.map_cons, List.map_nil, ir264, shut_in h0, List.head?_nil, reduceCtorEq, if_false, sExt, sHello, sAnswer, sEdit, sDeal, sBox, sDialed, sKnown]
 intro add sub mul arith eq ne lt le gt ge neg conv mn mx not beq len at' ln bd cut app allS isNil mks set o hP F ho
 have la := F.len_at hea
 cbv
 refine loop_ind2 hP (σ := List Ext × List Ext × List (List V) × Int × Option (Int × List (List V))) (fun s => match s.2.2.2.2 with | none => [(0, R ea .sh), (1, ⟨.val, [⟨.fn g [], .sh⟩]⟩), (4, R [] .nl), (5, R s.2.2.1 (.ow false)), (9, R ea .sh), (10, I (len ea)), (11, I s.2.2.2.1)] | some j => [(0, R ea .sh), (1, ⟨.val, [⟨.fn g [], .sh⟩]⟩), (4, R [] .nl), (5, R s.2.2.1 (.ow false)), (7, ⟨.ptr 38 0, []⟩), (9, R ea .sh), (10, I (len ea)), (11, I s.2.2.2.1), (38, ⟨.box (), [⟨.int .i64 j.1, .sc⟩, ⟨.row () j.2, .sh⟩]⟩)]) (fun s => At s.2.2.2.1 s.2.1.length ∧ l = s.2.1 ++ s.1 ∧ s.2.2.1 = row fExt (sel (onTag p) idE s.2.1)) (fun s => s.1.length) (l, [], [], 0, none) rfl ⟨rfl, rfl, rfl⟩ ?_
 intro c1 Q1 hc1 hQ1
 rintro ⟨suf, pre, eo, i, j⟩ ⟨hi, hl', hb⟩ ih
 simp only at hi hl' hb ih
 rcases j with _ | ⟨j1, j2⟩
 all_goals
  cbv
  cases suf with
  | nil =>
   rw [F.lt_f hi la (by simp [hl'])]; cbv
   rw [hQ1]; cbv
   rw [hQ]; cbv
   rw [← hr, het, hb, hl', List.append_nil]
  | cons x suf =>
   obtain ⟨ix, hix⟩ := nm (pre.length * 2)
   have hpre : pre.length ≤ 1073741824 := by rw [hl'] at hl; simp at hl; omega
   have hs : (sel (onTag p) idE pre).length ≤ pre.length := sel_len
   have hi' : At (add .i64 i 1) (pre ++ [x]).length := at_len (F.inc hi (by omega)) (by simp)
   have hl2 : l = (pre ++ [x]) ++ suf := by rw [hl']; simp
   have hmem : x ∈ l := by rw [hl']; simp
   obtain ⟨e1, he1⟩ := nm (row fI x.body)
   have hx := w x hmem
   have p0 : at' 2 ea i = some (ix, [.int .i64 x.tag, .row () e1]) := by rw [hix, he1]; exact F.get hi hea hl' (fun _ => rfl) (by decide)
   obtain ⟨v, hv⟩ := nm (onTag p x)
   have c2 : o g [I x.tag] = some ⟨[B v], [], none⟩ := by rw [ho, hv]; exact hp x hmem
   rw [F.lt_t hi la (by simp [hl'])]; cbv
   rw [p0]; cbv
   rw [hg]; cbv
   rw [c2]; cbv
   refine both (fun d => ?_) (fun d => ?_) <;> rw [d] <;> cbv
   ·rw [show allS e1 = true from F.scal he1 (fun _ => rfl)]; cbv
    rw [F.app_nil he1 (fun _ => rfl) hx]; cbv
    rw [show allS [[.int .i64 x.tag, .row () e1]] = false by rw [F.allS]; rfl]; cbv
    obtain ⟨eo', heo'⟩ := nm (row fExt (sel (onTag p) idE pre ++ [idE x]))
    rw [show app 2 eo [[.int .i64 x.tag, .row () e1]] = some eo' by rw [heo', he1]; exact F.push hb (fun _ => rfl) rfl (by omega)]; cbv
    refine ih (suf, pre ++ [x], eo', add .i64 i 1, some (x.tag, e1)) ⟨hi', hl2, by simp only; rw [heo', sel_t (by rw [← hv, d])]⟩ (by simp)
   ·refine ih (suf, pre ++ [x], eo, add .i64 i 1, some (x.tag, e1)) ⟨hi', hl2, by simp only; rw [hb, sel_f (by rw [← hv, d])]⟩ (by simp)
theorem ok264_1 (g : Nat) (hg : md g = []) (k0 : V) (p : Int → Bool) (l : List Ext) (hl : l.length ≤ 1073741824) (w : ∀ y ∈ l, y.body.length ≤ 1099511627776) (hp : ∀ x ∈ l, fix Tb md g [I x.tag, ⟨.val, [⟨k0, .sh⟩]⟩] = some ⟨[B (p x.tag)], [], none⟩) {f0 : Fl} (h0 : inFl f0 = true) : fix Tb md 264 [R (row fExt l) f0, ⟨.val, [⟨.fn g [k0], .sh⟩]⟩] = some ⟨[R (row fExt (sel (onTag p) idE l)) (.ow false)], [], none⟩ := by
 generalize hm_ : md = m_ at hg hp ⊢
 obtain ⟨et, het⟩ := nm (row fExt (sel (onTag p) idE l))
 rw [← het]
 generalize hr : (⟨_, [], none⟩ : Ret) = r
 obtain ⟨ea, hea⟩ := nm (row fExt l)
 rw [← hea]
 refine fix_fn2 (fn := ir264) tb_264 rfl rfl (by decide) rfl ?_; intro Q hQ; simp only [shutArgs, shutS, List.map_cons, List.map_nil, ir264, shut_in h0, List.head?_nil, reduceCtorEq, if_false, sExt, sHello, sAnswer, sEdit, sDeal, sBox, sDialed, sKnown]
 intro add sub mul arith eq ne lt le gt ge neg conv mn mx not beq len at' ln bd cut app allS isNil mks set o hP F ho
 have la := F.len_at hea
 cbv
 refine loop_ind2 hP (σ := List Ext × List Ext × List (List V) × Int × Option (Int × List (List V))) (fun s => match s.2.2.2.2 with | none => [(0, R ea .sh), (1, ⟨.val, [⟨.fn g [k0], .sh⟩]⟩), (4, R [] .nl), (5, R s.2.2.1 (.ow false)), (9, R ea .sh), (10, I (len ea)), (11, I s.2.2.2.1)] | some j => [(0, R ea .sh), (1, ⟨.val, [⟨.fn g [k0], .sh⟩]⟩), (4, R [] .nl), (5, R s.2.2.1 (.ow false)), (7, ⟨.ptr 38 0, []⟩), (9, R ea .sh), (10, I (len ea)), (11, I s.2.2.2.1), (38, ⟨.box (), [⟨.int .i64 j.1, .sc⟩, ⟨.row () j.2, .sh⟩]⟩)]) (fun s => At s.2.2.2.1 s.2.1.length ∧ l = s.2.1 ++ s.1 ∧ s.2.2.1 = row fExt (sel (onTag p) idE s.2.1)) (fun s => s.1.length) (l, [], [], 0, none) rfl ⟨rfl, rfl, rfl⟩ ?_
 intro c1 Q1 hc1 hQ1
 rintro ⟨suf, pre, eo, i, j⟩ ⟨hi, hl', hb⟩ ih
 simp only at hi hl' hb ih
 rcases j with _ | ⟨j1, j2⟩
 all_goals
  cbv
  cases suf with
  | nil =>
   rw [F.lt_f hi la (by simp [hl'])]; cbv
   rw [hQ1]; cbv
   rw [hQ]; cbv
   rw [← hr, het, hb, hl', List.append_nil]
  | cons x suf =>
   obtain ⟨ix, hix⟩ := nm (pre.length * 2)
   have hpre : pre.length ≤ 1073741824 := by rw [hl'] at hl; simp at hl; omega
   have hs : (sel (onTag p) idE pre).length ≤ pre.length := sel_len
   have hi' : At (add .i64 i 1) (pre ++ [x]).length := at_len (F.inc hi (by omega)) (by simp)
   have hl2 : l = (pre ++ [x]) ++ suf := by rw [hl']; simp
   have hmem : x ∈ l := by rw [hl']; simp
   obtain ⟨e1, he1⟩ := nm (row fI x.body)
   have hx := w x hmem
   have p0 : at' 2 ea i = some (ix, [.int .i64 x.tag, .row () e1]) := by rw [hix, he1]; exact F.get hi hea hl' (fun _ => rfl) (by decide)
   obtain ⟨v, hv⟩ := nm (onTag p x)
   have c2 : o g [I x.tag, ⟨.val, [⟨k0, .sh⟩]⟩] = some ⟨[B v], [], none⟩ := by rw [ho, hv]; exact hp x hmem
   rw [F.lt_t hi la (by simp [hl'])]; cbv
   rw [p0]; cbv
   rw [hg]; cbv
   rw [c2]; cbv
   refine both (fun d => ?_) (fun d => ?_) <;> rw [d] <;> cbv
   ·rw [show allS e1 = true from F.scal he1 (fun _ => rfl)]; cbv
    rw [F.app_nil he1 (fun _ => rfl) hx]; cbv
    rw [show allS [[.int .i64 x.tag, .row () e1]] = false by rw [F.allS]; rfl]; cbv
    obtain ⟨eo', heo'⟩ := nm (row fExt (sel (onTag p) idE pre ++ [idE x]))
    rw [show app 2 eo [[.int .i64 x.tag, .row () e1]] = some eo' by rw [heo', he1]; exact F.push hb (fun _ => rfl) rfl (by omega)]; cbv
    refine ih (suf, pre ++ [x], eo', add .i64 i 1, some (x.tag, e1)) ⟨hi', hl2, by simp only; rw [heo', sel_t (by rw [← hv, d])]⟩ (by simp)
   ·refine ih (suf, pre ++ [x], eo, add .i64 i 1, some (x.tag, e1)) ⟨hi', hl2, by simp only; rw [hb, sel_f (by rw [← hv, d])]⟩ (by simp)
theorem ok356 (n : Int) : fix Tb md 356 [I n] = some ⟨[B (!resv n)], [], none⟩ := by
 obtain ⟨v, hv⟩ := nm (resv n)
 rw [← hv]
 generalize hr : (⟨_, [], none⟩ : Ret) = r
 refine fix_fn2 (fn := ir356) tb_356 rfl rfl (by decide) rfl ?_; intro Q hQ; simp only [shutArgs, shutS, List.map_cons, List.map_nil, ir356, List.head?_nil, reduceCtorEq, if_false, sExt, sHello, sAnswer, sEdit, sDeal, sBox, sDialed, sKnown]
 intro add sub mul arith eq ne lt le gt ge neg conv mn mx not beq len at' ln bd cut app allS isNil mks set o hP F ho
 have c1 : o 337 [I n] = some ⟨[B v], [], none⟩ := by rw [ho, hv]; exact ok337 ..
 cbv
 rw [c1]; cbv
 rw [hQ]; cbv
 rw [← hr, F.not]
theorem ok308 (l : List Ext) (hl : l.length ≤ 1073741824) (w : ∀ y ∈ l, y.body.length ≤ 1099511627776) {f0 : Fl} (h0 : inFl f0 = true) : fix Tb md 308 [R (row fExt l) f0] = some ⟨[R (row fExt (sel notRes idE l)) (.ow false)], [], none⟩ := by
 obtain ⟨et, het⟩ := nm (row fExt (sel notRes idE l))
 rw [← het]
 generalize hr : (⟨_, [], none⟩ : Ret) = r
 obtain ⟨ea, hea⟩ := nm (row fExt l)
 rw [← hea]
 refine fix_fn2 (fn := ir308) tb_308 rfl rfl (by decide) rfl ?_; intro Q hQ; simp only [shutArgs, shutS, List.map_cons, List.map_nil, ir308, shut_in h0, List.head?_nil, reduceCtorEq, if_false, sExt, sHello, sAnswer, sEdit, sDeal, sBox, sDialed, sKnown]
 intro add sub mul arith eq ne lt le gt ge neg conv mn mx not beq len at' ln bd cut app allS isNil mks set o hP F ho
 have c1 : o 264 [R ea (.sp 0 0), ⟨.val, [⟨.fn 356 [], .sh⟩]⟩] = some ⟨[R et (.ow false)], [], none⟩ := by
  rw [ho, het, hea]
  exact ok264_0 356 rfl (fun n => !resv n) l hl w (fun x _ => ok356 x.tag) rfl
 cbv
 rw [c1]; cbv
 rw [hQ]; cbv
 exact congrArg some hr
theorem ok357 (n : Int) (b : List Int) (hb : b.length ≤ 1099511627776) : fix Tb md 357 [I n, ⟨.val, [⟨.ptr () [.row () (row fI b)], .sh⟩]⟩] = some ⟨[B (hasI b n)], [], none⟩ := by
 obtain ⟨v, hv⟩ := nm (hasI b n)
 rw [← hv]
 generalize hr : (⟨_, [], none⟩ : Ret) = r
 obtain ⟨eb, heb⟩ := nm (row fI b)
 rw [← heb]
 refine fix_fn2 (fn := ir357) tb_357 rfl rfl (by decide) rfl ?_; intro Q hQ; simp only [shutArgs, shutS, List.map_cons, List.map_nil, ir357, List.head?_nil, reduceCtorEq, if_false, sExt, sHello, sAnswer, sEdit, sDeal, sBox, sDialed, sKnown]
 intro add sub mul arith eq ne lt le gt ge neg conv mn mx not beq len at' ln bd cut app allS isNil mks set o hP F ho
 have c1 : o 302 [R eb (.sp 0 0), I n] = some ⟨[B v], [], none⟩ := by rw [ho, hv, heb]; exact ok302 _ _ hb rfl
 cbv
 rw [c1]; cbv
 rw [hQ]; cbv
 exact congrArg some hr
theorem ok309 (l : List Ext) (b : List Int) (hl : l.length ≤ 1073741824) (hb' : b.length ≤ 1073741824) (w : ∀ y ∈ l, y.body.length ≤ 1099511627776) {f0 f1 : Fl} (h0 : inFl f0 = true) (h1 : inFl f1 = true) : fix Tb md 309 [R (row fExt l) f0, R (row fI b) f1] = some ⟨[R (row fExt (sel (tagIn b) idE l)) (.ow false)], [], none⟩ := by
 obtain ⟨et, het⟩ := nm (row fExt (sel (tagIn b) idE l))
 rw [← het]
 generalize hr : (⟨_, [], none⟩ : Ret) = r
 obtain ⟨ea, hea⟩ := nm (row fExt l)
 obtain ⟨eb, heb⟩ := nm (row fI b)
 rw [← hea, ← heb]
 refine fix_fn2 (fn := ir309) tb_309 rfl rfl (by decide) rfl ?_; intro Q hQ; simp only [shutArgs, shutS, List.map_cons, List.map_nil, ir309, shut_in h0, shut_in h1, List.head?_nil, reduceCtorEq, if_false, sExt, sHello, sAnswer, sEdit, sDeal, sBox, sDialed, sKnown]
 intro add sub mul arith eq ne lt le gt ge neg conv mn mx not beq len at' ln bd cut app allS isNil mks set o hP F ho
 have c1 : o 264 [R ea (.sp 0 0), ⟨.val, [⟨.fn 357 [.ptr () [.row () eb]], .sh⟩]⟩] = some ⟨[R et (.ow false)], [], none⟩ := by
  rw [ho, het, hea, heb]
  exact ok264_1 357 rfl _ (fun n => hasI b n) l hl w (fun x _ => ok357 x.tag b (by omega)) rfl
 cbv
 rw [c1]; cbv
 rw [hQ]; cbv
 exact congrArg some hr
def caOk (vs : List Int) (h : Hello) : Bool := isHel h && !decide (bestC vs h.versions = 0)
def caX (tg : List Int) (l : List Ext) : List Ext := sel notRes idE (sel (tagIn tg) idE l)
def caV (vs tg : List Int) (h : Hello) : Answer := if caOk vs h then ⟨bestC vs h.versions, caX tg h.exts⟩ else ⟨0, []⟩
theorem caV_mid {vs tg : List Int} {h : Hello} (m : h.Mid) : (caV vs tg h).Mid := by
 unfold caV
 split
 ·unfold Hello.Mid at m
  refine ⟨Nat.le_trans sel_len (Nat.le_trans sel_len m.2.1), fun y hy => m.2.2 y ?_⟩
  simp only [caX, sel_idE] at hy
  exact (List.mem_filter.1 (List.mem_filter.1 hy).1).1
 ·exact ⟨by simp, by simp⟩
theorem ok169r (vs tg : List Int) (h : Hello) (hv : vs.length ≤ 1073741824) (ht : tg.length ≤ 1073741824) (mh : h.Mid) {f0 f1 f2 f3 : Fl} (q0 : inFl f0 = true) (q1 : inFl f1 = true) (q2 : inFl f2 = true) (q3 : inFl f3 = true) (r : Ret)
  (rA' : caOk vs h = true → (⟨[sAnswer (caV vs tg h).version (row fExt (caV vs tg h).exts) (.ow false), B true], [], none⟩ : Ret) = r) (rC' : caOk vs h = false → (⟨[sAnswer 0 [] .nl, B false], [], none⟩ : Ret) = r) :
  fix Tb md 169 [R (row fI vs) f0, R (row fI tg) f1, sHello (row fI h.versions) (row fExt h.exts) f2 f3] = some r := by
 have mh' := mh
 unfold Hello.Mid at mh'
 have hvl := mh'.1
 have hxl := mh'.2.1
 have wh : ∀ y ∈ h.exts, y.body.length ≤ 1099511627776 := fun y hy => Nat.le_trans (show y.body.length ≤ 1073741824 from mh'.2.2 y hy) (by decide)
 obtain ⟨u, hu⟩ := nm (isHel h)
 obtain ⟨n, hn⟩ := nm (bestC vs h.versions)
 obtain ⟨K, hK⟩ := nm (sel (tagIn tg) idE h.exts)
 obtain ⟨Z, hZ⟩ := nm (sel notRes idE K)
 have hKl : K.length ≤ 1073741824 := by rw [hK]; exact Nat.le_trans sel_len hxl
 have wK : ∀ y ∈ K, y.body.length ≤ 1099511627776 := fun y hy => wh y (by rw [hK, sel_idE] at hy; exact (List.mem_filter.1 hy).1)
 have hok : caOk vs h = (u && !decide (n = 0)) := by rw [hu, hn]; rfl
 have rA : u = true → decide (n = 0) = false → (⟨[sAnswer n (row fExt Z) (.ow false), B true], [], none⟩ : Ret) = r := fun q1 q2 => by
  have hk : caOk vs h = true := by rw [hok, q1, q2]; rfl
  rw [← rA' hk, show caV vs tg h = ⟨n, Z⟩ by rw [caV, hk, if_pos rfl, hn, hZ, hK]; rfl]
 have rC : u = false ∨ decide (n = 0) = true → (⟨[sAnswer 0 [] .nl, B false], [], none⟩ : Ret) = r := fun q => rC' (by rcases q with q | q <;> rw [hok, q] <;> simp)
 clear rA' rC' hok
 obtain ⟨ev, hev⟩ := nm (row fI vs)
 obtain ⟨et, het⟩ := nm (row fI tg)
 obtain ⟨dv, hdv⟩ := nm (row fI h.versions)
 obtain ⟨dx, hdx⟩ := nm (row fExt h.exts)
 rw [← hev, ← het, ← hdv, ← hdx]
 obtain ⟨ek, hek⟩ := nm (row fExt K)
 obtain ⟨ez, hez⟩ := nm (row fExt Z)
 rw [← hez] at rA
 refine fix_fn2 (fn := ir169) tb_169 rfl rfl (by decide) rfl ?_; intro Q hQ; simp only [shutArgs, shutS, List.map_cons, List.map_nil, ir169, shut_in q0, shut_in q1, shut_in q2, shut_in q3, List.head?_nil, reduceCtorEq, if_false, sExt, sHello, sAnswer, sEdit, sDeal, sBox, sDialed, sKnown]
 intro add sub mul arith eq ne lt le gt ge neg conv mn mx not beq len at' ln bd cut app allS isNil mks set o hP F ho
 have c1 : o 111 [R ev (.sp 0 0), R dv (.sp 1 0)] = some ⟨[I n], [], none⟩ := by rw [ho, hn, hev, hdv]; exact ok111 _ _ hv hvl rfl rfl
 have c2 : o 113 [sHello dv dx (.sp 0 0) (.sp 0 1)] = some ⟨[B u], [], none⟩ := by rw [ho, hu, hdv, hdx]; exact ok113 _ (by omega) (by omega) wh rfl rfl
 have c3 : o 309 [R dx (.sp 0 0), R et (.sp 1 0)] = some ⟨[R ek (.ow false)], [], none⟩ := by rw [ho, hek, hK, hdx, het]; exact ok309 _ _ hxl ht wh rfl rfl
 have c4 : o 308 [R ek (.sp 0 0)] = some ⟨[R ez (.ow false)], [], none⟩ := by rw [ho, hez, hZ, hek]; exact ok308 _ hKl wK rfl
 have g1 : eq n 0 = decide (n = 0) := F.eq ..
 cbv
 rw [c1]; cbv
 rw [c2]; cbv
 refine both (fun d1 => ?_) (fun d1 => ?_) <;> rw [d1] <;> cbv
 ·rw [hQ]; cbv
  exact congrArg some (rC (.inl (F.not_t d1)))
 refine both (fun d2 => ?_) (fun d2 => ?_) <;> rw [d2] <;> cbv
 ·rw [hQ]; cbv
  exact congrArg some (rC (.inr (by rw [← g1, d2])))
 rw [c3]; cbv
 rw [c4]; cbv
 rw [hQ]; cbv
 exact congrArg some (rA (F.not_f d1) (by rw [← g1, d2]))
theorem ok169a (vs tg : List Int) (h : Hello) (hv : vs.length ≤ 1073741824) (ht : tg.length ≤ 1073741824) (mh : h.Mid) {f0 f1 f2 f3 : Fl} (q0 : inFl f0 = true) (q1 : inFl f1 = true) (q2 : inFl f2 = true) (q3 : inFl f3 = true) (q : caOk vs h = true) :
  fix Tb md 169 [R (row fI vs) f0, R (row fI tg) f1, sHello (row fI h.versions) (row fExt h.exts) f2 f3] = some ⟨[sAnswer (caV vs tg h).version (row fExt (caV vs tg h).exts) (.ow false), B true], [], none⟩ :=
 ok169r vs tg h hv ht mh q0 q1 q2 q3 _ (fun _ => rfl) (fun e => by rw [q] at e; cases e)
theorem ok169b (vs tg : List Int) (h : Hello) (hv : vs.length ≤ 1073741824) (ht : tg.length ≤ 1073741824) (mh : h.Mid) {f0 f1 f2 f3 : Fl} (q0 : inFl f0 = true) (q1 : inFl f1 = true) (q2 : inFl f2 = true) (q3 : inFl f3 = true) (q : caOk vs h = false) :
  fix Tb md 169 [R (row fI vs) f0, R (row fI tg) f1, sHello (row fI h.versions) (row fExt h.exts) f2 f3] = some ⟨[sAnswer 0 [] .nl, B false], [], none⟩ :=
 ok169r vs tg h hv ht mh q0 q1 q2 q3 _ (fun e => by rw [q] at e; cases e) (fun _ => rfl)
theorem ok169 (vs tg : List Int) (h : Hello) (hv : vs.length ≤ 1073741824) (ht : tg.length ≤ 1073741824) (mh : h.Mid) {f0 f1 f2 f3 : Fl} (q0 : inFl f0 = true) (q1 : inFl f1 = true) (q2 : inFl f2 = true) (q3 : inFl f3 = true) :
  fix Tb md 169 [R (row fI vs) f0, R (row fI tg) f1, sHello (row fI h.versions) (row fExt h.exts) f2 f3] = some ⟨[sAnswer (caV vs tg h).version (row fExt (caV vs tg h).exts) (.ow false), B (caOk vs h)], [], none⟩ ∨
  ((caV vs tg h).exts = [] ∧ fix Tb md 169 [R (row fI vs) f0, R (row fI tg) f1, sHello (row fI h.versions) (row fExt h.exts) f2 f3] = some ⟨[sAnswer (caV vs tg h).version [] .nl, B (caOk vs h)], [], none⟩) := by
 cases q : caOk vs h with
 | true => exact .inl (ok169a vs tg h hv ht mh q0 q1 q2 q3 q)
 | false =>
  rw [show caV vs tg h = ⟨0, []⟩ by rw [caV, q]; rfl]
  exact .inr ⟨rfl, ok169b vs tg h hv ht mh q0 q1 q2 q3 q⟩
theorem ok177 (a b : List Int) (hl : a.length ≤ 1099511627776) {f0 f1 : Fl} (h0 : inFl f0 = true) (h1 : inFl f1 = true) : fix Tb md 177 [R (row fI a) f0, R (row fI b) f1] = some ⟨[B (decide (a = b))], [], none⟩ := by
 refine fix_fn (fn := ir177) tb_177 rfl rfl (by decide) rfl ?_; simp only [shutArgs, shutS, List.map_cons, List.map_nil, ir177, shut_in h0, shut_in h1, List.head?_nil, reduceCtorEq, if_false, sExt, sHello, sAnswer, sEdit, sDeal, sBox, sDialed, sKnown]
 generalize hr : (⟨_, [], none⟩ : Ret) = r
 obtain ⟨ea, hea⟩ := nm (row fI a)
 obtain ⟨eb, heb⟩ := nm (row fI b)
 rw [← hea, ← heb]
 obtain ⟨v, hv⟩ := nm (decide (a = b))
 intro add sub mul arith eq ne lt le gt ge neg conv mn mx not beq len at' ln bd cut app allS isNil mks set o hP F ho
 have c1 : o 229 [R ea (.sp 0 0), R eb (.sp 1 0)] = some ⟨[B v], [], none⟩ := by rw [ho, hv, hea, heb]; exact ok229 _ _ hl rfl rfl
 cbv
 rw [c1]; cbv
 rw [← hr, hv]
theorem hasI_iff {l : List Int} {n : Int} : hasI l n = true ↔ n ∈ l := by unfold hasI; simp
theorem con_f {x n : Int} (h : ¬ x = n) (l : List Int) : hasI (x :: l) n = hasI l n := by unfold hasI; simp [h]
theorem con_t {x n : Int} (h : x = n) (l : List Int) : hasI (x :: l) n = true := by unfold hasI; simp [h]
theorem ok188 (l : List Int) (n : Int) (hl : l.length ≤ 1099511627776) {f0 : Fl} (h0 : inFl f0 = true) : fix Tb md 188 [R (row fI l) f0, I n] = some ⟨[B (hasI l n)], [], none⟩ := by
 obtain ⟨z, hz⟩ := nm (hasI l n)
 rw [← hz]
 generalize hr : (⟨_, [], none⟩ : Ret) = r
 obtain ⟨ea, hea⟩ := nm (row fI l)
 rw [← hea]
 refine fix_fn2 (fn := ir188) tb_188 rfl rfl (by decide) rfl ?_; intro Q hQ; simp only [shutArgs, shutS, List.map_cons, List.map_nil, ir188, shut_in h0, List.head?_nil, reduceCtorEq, if_false, sExt, sHello, sAnswer, sEdit, sDeal, sBox, sDialed, sKnown]
 intro add sub mul arith eq ne lt le gt ge neg conv mn mx not beq len at' ln bd cut app allS isNil mks set o hP F ho
 have la := F.len_at hea
 cbv
 refine loop_ind2 hP (σ := List Int × List Int × Int) (fun s => [(0, R ea .sh), (1, I n), (4, B false), (5, I s.2.2)]) (fun s => At s.2.2 s.2.1.length ∧ l = s.2.1 ++ s.1 ∧ z = hasI s.1 n) (fun s => s.1.length) (l, [], 0) rfl ⟨rfl, rfl, hz⟩ ?_
 intro c9 Q1 hc9 hQ1
 rintro ⟨suf, pre, i⟩ ⟨hi, hl', hz'⟩ ih
 simp only at hi hl' hz' ih
 cbv
 cases suf with
 | nil =>
  rw [F.lt_f hi la (by simp [hl'])]; cbv
  rw [hQ1]; cbv
  rw [hQ]; cbv
  rw [show z = false by rw [hz']; rfl] at hr
  exact congrArg some hr
 | cons x suf =>
  obtain ⟨ix, hix⟩ := nm (pre.length * 1)
  have hpl : pre.length ≤ 1099511627776 := by rw [hl'] at hl; simp at hl; omega
  have p0 : at' 1 ea i = some (ix, [.int .i64 x]) := by rw [hix]; exact F.get hi hea hl' (fun _ => rfl) (by decide)
  have g : eq x n = decide (x = n) := F.eq ..
  rw [F.lt_t hi la (by simp [hl'])]; cbv
  rw [p0]; cbv
  refine both (fun d => ?_) (fun d => ?_) <;> rw [d] <;> cbv
  ·rw [g, decide_eq_true_eq] at d
   rw [hQ1]; cbv
   rw [hQ]; cbv
   rw [show z = true from hz'.trans (con_t d suf)] at hr
   exact congrArg some hr
  ·rw [g, decide_eq_false_iff_not] at d
   exact ih (suf, pre ++ [x], add .i64 i 1) ⟨at_len (F.inc hi hpl) (by simp), by rw [hl']; simp, hz'.trans (con_f d suf)⟩ (by simp)
def subB (a b : List Int) : Bool := a.all fun x => hasI b x
theorem ok178 (a b : List Int) (hl : a.length ≤ 1099511627776) (hl2 : b.length ≤ 1099511627776) {f0 f1 : Fl} (h0 : inFl f0 = true) (h1 : inFl f1 = true) : fix Tb md 178 [R (row fI a) f0, R (row fI b) f1] = some ⟨[B (subB a b)], [], none⟩ := by
 have kc := fun (n : Int) => ok188 b n hl2 (f0 := .sp 0 0) rfl
 obtain ⟨z, hz⟩ := nm (subB a b)
 rw [← hz]
 generalize hr : (⟨_, [], none⟩ : Ret) = r
 obtain ⟨ea, hea⟩ := nm (row fI a)
 obtain ⟨eb, heb⟩ := nm (row fI b)
 rw [← hea, ← heb]
 rw [← heb] at kc
 refine fix_fn2 (fn := ir178) tb_178 rfl rfl (by decide) rfl ?_; intro Q hQ; simp only [shutArgs, shutS, List.map_cons, List.map_nil, ir178, shut_in h0, shut_in h1, List.head?_nil, reduceCtorEq, if_false, sExt, sHello, sAnswer, sEdit, sDeal, sBox, sDialed, sKnown]
 intro add sub mul arith eq ne lt le gt ge neg conv mn mx not beq len at' ln bd cut app allS isNil mks set o hP F ho
 rw [← ho] at kc
 have la := F.len_at hea
 cbv
 refine loop_ind2 hP (σ := List Int × List Int × Int) (fun s => [(0, R ea .sh), (1, R eb .sh), (4, B false), (5, I s.2.2)]) (fun s => At s.2.2 s.2.1.length ∧ a = s.2.1 ++ s.1 ∧ z = subB s.1 b) (fun s => s.1.length) (a, [], 0) rfl ⟨rfl, rfl, hz⟩ ?_
 intro c9 Q1 hc9 hQ1
 rintro ⟨suf, pre, i⟩ ⟨hi, hl', hz'⟩ ih
 simp only at hi hl' hz' ih
 cbv
 cases suf with
 | nil =>
  rw [F.lt_f hi la (by simp [hl'])]; cbv
  rw [hQ1]; cbv
  rw [hQ]; cbv
  rw [show z = true by rw [hz']; rfl] at hr
  exact congrArg some hr
 | cons x suf =>
  obtain ⟨ix, hix⟩ := nm (pre.length * 1)
  have hpl : pre.length ≤ 1099511627776 := by rw [hl'] at hl; simp at hl; omega
  have p0 : at' 1 ea i = some (ix, [.int .i64 x]) := by rw [hix]; exact F.get hi hea hl' (fun _ => rfl) (by decide)
  have k := kc x
  obtain ⟨v, hv⟩ := nm (hasI b x)
  rw [← hv] at k
  have hz2 : z = (v && subB suf b) := by rw [hz', hv]; rfl
  rw [F.lt_t hi la (by simp [hl'])]; cbv
  rw [p0]; cbv
  rw [k]; cbv
  cases v with
  | false =>
   rw [show not false = true by rw [F.not]; rfl]; cbv
   rw [hQ1]; cbv
   rw [hQ]; cbv
   rw [show z = false by rw [hz2]; rfl] at hr
   exact congrArg some hr
  | true =>
   rw [show not true = false by rw [F.not]; rfl]; cbv
   exact ih (suf, pre ++ [x], add .i64 i 1) ⟨at_len (F.inc hi hpl) (by simp), by rw [hl']; simp, by rw [hz2]; rfl⟩ (by simp)
def seedGo : List Int → Nat → Int → Int
 | [], _, h => h
 | x :: l, n, h => if n < 4000 then seedGo l (n + 1) (bitI .and (w64 (w64 (w64 (h * 137) + w64 x) + 11)) 1073741823) else h
def newC (l : List Int) : Cur := ⟨l, 0, seedGo l 0 (w64 (193017 + (l.length : Int)))⟩
theorem newC_ok {l : List Int} (h : l.length ≤ 1048576) : (newC l).Ok := ⟨Nat.zero_le _, h⟩
theorem ok246 (l : List Int) (hl : l.length ≤ 1048576) : fix Tb md 246 [R (row fU l) (.sp 0 0)] = some ⟨[sCur (row fU l) .no 0 (newC l).h], [], none⟩ := by
 obtain ⟨T, hT⟩ := nm (newC l).h
 rw [← hT]
 generalize hr : (⟨_, [], none⟩ : Ret) = r
 obtain ⟨ea, hea⟩ := nm (row fU l)
 rw [← hea] at hr ⊢
 obtain ⟨h0', hh0'⟩ := nm (w64 (193017 + (l.length : Int)))
 have hT' : seedGo l 0 h0' = T := by rw [hT, hh0']; rfl
 have h0 : inFl (.sp 0 0) = true := rfl
 refine fix_fn2 (fn := ir246) tb_246 rfl rfl (by decide) rfl ?_; intro Q hQ; simp only [shutArgs, shutS, List.map_cons, List.map_nil, ir246, shut_in h0, List.head?_nil, reduceCtorEq, if_false, sExt, sHello, sAnswer, sEdit, sDeal, sBox, sDialed, sKnown]
 intro add sub mul arith eq ne lt le gt ge neg conv mn mx not beq len at' ln bd cut app allS isNil mks set o hP F ho
 have la := F.len_at hea
 have g0 : add .i64 193017 (len ea) = h0' := by rw [F.add, hh0', la]; rfl
 cbv
 rw [g0]
 refine loop_ind2 hP (σ := List Int × List Int × Int × Int) (fun s => [(0, R ea .sh), (3, I s.2.2.1), (4, I s.2.2.2)]) (fun s => At s.2.2.2 s.2.1.length ∧ l = s.2.1 ++ s.1 ∧ seedGo s.1 s.2.1.length s.2.2.1 = T) (fun s => s.1.length) (l, [], h0', 0) rfl ⟨rfl, rfl, hT'⟩ ?_
 intro c9 Q1 hc9 hQ1
 rintro ⟨suf, pre, h, i⟩ ⟨hi, hl', hb⟩ ih
 simp only at hi hl' hb ih
 cbv
 cases suf with
 | nil =>
  have hhT : h = T := hb
  rw [F.lt_f hi la (by simp [hl'])]; cbv
  rw [hQ1]; cbv
  rw [hhT, hQ]; cbv
  exact congrArg some hr
 | cons x suf =>
  have hpl : pre.length ≤ 1048576 := by rw [hl'] at hl; simp at hl; omega
  have g1 : lt i 4000 = decide (pre.length < 4000) := F.lt_n hi (k := 4000) (m := 4000) rfl
  unfold seedGo at hb
  rw [F.lt_t hi la (by simp [hl'])]; cbv
  refine both (fun d1 => ?_) (fun d1 => ?_) <;> rw [d1] <;> cbv
  ·rw [g1, decide_eq_true_eq] at d1
   rw [if_pos d1] at hb
   obtain ⟨ix, hix⟩ := nm (pre.length * 1)
   have p0 : at' 1 ea i = some (ix, [.int .u8 x]) := by rw [hix]; exact F.get hi hea hl' (fun _ => rfl) (by decide)
   obtain ⟨h1, hh1⟩ := nm (w64 (h * 137))
   obtain ⟨y, hy⟩ := nm (w64 x)
   obtain ⟨h2, hh2⟩ := nm (w64 (h1 + y))
   obtain ⟨h3, hh3⟩ := nm (w64 (h2 + 11))
   obtain ⟨h4, hh4⟩ := nm (bitI .and h3 1073741823)
   rw [← hh1, ← hy, ← hh2, ← hh3, ← hh4] at hb
   have g2 : mul .i64 h 137 = h1 := by rw [F.mul, hh1]; rfl
   have g3 : conv .i64 x = y := by rw [F.conv, hy]; rfl
   have g4 : add .i64 h1 y = h2 := by rw [F.add, hh2]; rfl
   have g5 : add .i64 h2 11 = h3 := by rw [F.add, hh3]; rfl
   have g6 : arith .and .i64 h3 1073741823 = some (.int .i64 h4) := by rw [F.arith, hh4]; rfl
   rw [p0]; cbv
   rw [g2, g3, g4, g5, g6]; cbv
   exact ih (suf, pre ++ [x], h4, add .i64 i 1) ⟨at_len (F.inc hi (by omega)) (by simp), by rw [hl']; simp, by simpa using hb⟩ (by simp)
  ·rw [g1, decide_eq_false_iff_not] at d1
   have hhT : h = T := by rw [if_neg d1] at hb; exact hb
   rw [hQ1]; cbv
   rw [hhT, hQ]; cbv
   exact congrArg some hr
def l4Go (n : Int) : List Int → List Int → List Int
 | pre, [] => pre ++ [n]
 | pre, x :: suf => if x < n then l4Go n (pre ++ [x]) suf else if x = n then pre ++ x :: suf else pre ++ n :: x :: suf
def l4V (l : List Int) (n : Int) : List Int := l4Go n [] l
theorem l4Go_len (n : Int) : ∀ (suf pre : List Int), (l4Go n pre suf).length ≤ pre.length + suf.length + 1
 | [], pre => by simp [l4Go]
 | x :: suf, pre => by
  unfold l4Go
  split
  ·have := l4Go_len n suf (pre ++ [x]); simp at this ⊢; omega
  ·split <;> simp <;> omega
theorem l4V_len (l : List Int) (n : Int) : (l4V l n).length ≤ l.length + 1 := by have := l4Go_len n l []; simpa [l4V] using this
theorem l4Go_perm (n : Int) : ∀ (suf pre : List Int), n ∉ suf → (l4Go n pre suf).Perm (n :: (pre ++ suf))
 | [], pre, _ => by unfold l4Go; rw [List.append_nil]; exact List.perm_append_singleton n pre
 | x :: suf, pre, h => by
  unfold l4Go
  simp only [List.mem_cons, not_or] at h
  split
  ·have := l4Go_perm n suf (pre ++ [x]) h.2
   simpa using this
  ·rw [if_neg (fun e => h.1 e.symm)]
   exact List.perm_middle
theorem l4Go_asc (n : Int) : ∀ (suf pre : List Int), (pre ++ suf).Pairwise (· < ·) → n ∉ suf → (∀ x ∈ pre, x < n) → (l4Go n pre suf).Pairwise (· < ·)
 | [], pre, h1, _, h3 => by
  unfold l4Go
  rw [List.append_nil] at h1
  rw [List.pairwise_append]
  exact ⟨h1, by simp, fun a ha b hb => by simp at hb; subst hb; exact h3 a ha⟩
 | x :: suf, pre, h1, h2, h3 => by
  unfold l4Go
  simp only [List.mem_cons, not_or] at h2
  split
  ·rename_i hx
   refine l4Go_asc n suf (pre ++ [x]) (by simpa using h1) h2.2 (fun y hy => ?_)
   rcases List.mem_append.1 hy with hy | hy
   ·exact h3 y hy
   ·simp at hy; subst hy; exact hx
  ·rename_i hx
   rw [if_neg (fun e => h2.1 e.symm)]
   rw [List.pairwise_append] at h1 ⊢
   obtain ⟨p1, p2, p3⟩ := h1
   have hnx : n < x := by have := h2.1; omega
   refine ⟨p1, List.pairwise_cons.2 ⟨fun y hy => ?_, p2⟩, fun a ha b hb => ?_⟩
   ·rcases List.mem_cons.1 hy with rfl | hy
    ·exact hnx
    ·exact Int.lt_trans hnx ((List.pairwise_cons.1 p2).1 y hy)
   ·rcases List.mem_cons.1 hb with rfl | hb
    ·exact h3 a ha
    ·exact p3 a ha b hb
theorem sortI_put {l : List Int} {n : Int} (h : areVer l = true) (hn : hasI l n = false) : sortI (l ++ [n]) = l4V l n := by
 have hm : n ∉ l := fun q => by
  unfold hasI at hn
  rw [List.any_eq_false] at hn
  exact hn n q (by simp)
 obtain ⟨h1, _⟩ := areVer_asc h
 have p1 : (l4V l n).Perm (n :: l) := by have := l4Go_perm n l [] hm; simpa [l4V] using this
 have p2 : (sortI (l ++ [n])).Perm (l ++ [n]) := List.mergeSort_perm _ _
 have s1 : (l4V l n).Pairwise (· < ·) := l4Go_asc n l [] (by simpa using h1) hm (by simp)
 have s2 : (sortI (l ++ [n])).Pairwise (fun a b => decide (a ≤ b) = true) := List.pairwise_mergeSort (fun a b c => by simp; omega) (fun a b => by simp; omega) _
 refine List.Perm.eq_of_pairwise (le := fun a b => a ≤ b) (fun a b _ _ h1 h2 => Int.le_antisymm h1 h2) (s2.imp (fun h => by simpa using h)) (s1.imp (fun h => Int.le_of_lt h)) ?_
 exact p2.trans ((List.perm_append_singleton n l).trans p1.symm)
def avOk (l : List Int) (v : Int) : Bool := areVer l && inR v 1 9 && !hasI l v
def avV (l : List Int) (v : Int) : List Int := if avOk l v then l4V l v else l
theorem avV_len (l : List Int) (v : Int) : (avV l v).length ≤ l.length + 1 := by
 unfold avV; split
 ·exact l4V_len l v
 ·omega
theorem ok345 (l : List Int) (n : Int) (hl : l.length ≤ 1073741824) {f0 : Fl} (q0 : inFl f0 = true) : fix Tb md 345 [R (row fI l) f0, I n] = some ⟨[R (row fI (l4V l n)) (.ow false)], [], none⟩ := by
 obtain ⟨T, hT⟩ := nm (l4V l n)
 rw [← hT]
 obtain ⟨et, het⟩ := nm (row fI T)
 rw [← het]
 generalize hr : (⟨_, [], none⟩ : Ret) = r
 obtain ⟨ea, hea⟩ := nm (row fI l)
 rw [← hea]
 refine fix_fn2 (fn := ir345) tb_345 rfl rfl (by decide) rfl ?_; intro Q hQ; simp only [shutArgs, shutS, List.map_cons, List.map_nil, ir345, shut_in q0, List.head?_nil, reduceCtorEq, if_false, sExt, sHello, sAnswer, sEdit, sDeal, sBox, sDialed, sKnown]
 intro add sub mul arith eq ne lt le gt ge neg conv mn mx not beq len at' ln bd cut app allS isNil mks set o hP F ho
 have la := F.len_at hea
 have p9 : allS [[.int .i64 n]] = true := by rw [F.allS]; rfl
 cbv
 refine loop_ind2 hP (σ := List Int × List Int × Int) (fun s => [(0, R ea .sh), (1, I n), (4, R [] .nl), (5, I s.2.2)]) (fun s => At s.2.2 s.2.1.length ∧ l = s.2.1 ++ s.1 ∧ l4Go n s.2.1 s.1 = T) (fun s => s.1.length) (l, [], 0) rfl ⟨rfl, rfl, hT.symm⟩ ?_
 intro c9 Q1 hc9 hQ1
 rintro ⟨suf, pre, i⟩ ⟨hi, hl', hb⟩ ih
 simp only at hi hl' hb ih
 have hpl : pre.length ≤ 1073741824 := by rw [hl'] at hl; simp at hl; omega
 obtain ⟨m, hm⟩ := nm (pre.length)
 obtain ⟨e1, he1⟩ := nm (row fI pre)
 obtain ⟨e2, he2⟩ := nm (row fI suf)
 obtain ⟨e3, he3⟩ := nm (row fI (pre ++ [n]))
 obtain ⟨e4, he4⟩ := nm (row fI (pre ++ [n] ++ suf))
 have b1 : bd (ln ea) i = some m := by rw [F.ln' hea, hm]; exact F.bd' hi (by rw [hl']; simp)
 have b2 : cut 1 ea m 0 = some e1 := by rw [F.cut' hea (fun _ => rfl), he1, hl', hm]; simp
 have b3 : cut 1 ea (ln ea) m = some e2 := by rw [F.cut' hea (fun _ => rfl), F.ln' hea, he2, hl', hm, List.take_length]; simp
 have p1 : allS e1 = true := F.scal he1 (fun _ => rfl)
 have p2 : app 1 [] e1 = some e1 := F.app_nil he1 (fun _ => rfl) (by omega)
 have p3 : app 1 e1 [[.int .i64 n]] = some e3 := by rw [he3]; exact F.push he1 (fun _ => rfl) rfl (by omega)
 have p4 : allS e2 = true := F.scal he2 (fun _ => rfl)
 have p5 : app 1 e3 e2 = some e4 := by rw [he4]; exact F.app' he3 he2 (fun _ => rfl) (by rw [hl'] at hl; simp at hl ⊢; omega)
 cbv
 cases suf with
 | nil =>
  rw [F.lt_f hi la (by simp [hl'])]; cbv
  rw [hQ1]; cbv
  rw [F.lt_f hi la (by simp [hl'])]; cbv
  rw [b1]; cbv
  rw [b2]; cbv
  rw [p1]; cbv
  rw [p2]; cbv
  rw [p9]; cbv
  rw [p3]; cbv
  rw [b1]; cbv
  rw [b3]; cbv
  rw [p4]; cbv
  rw [p5]; cbv
  rw [hQ]; cbv
  rw [← hr, het, ← hb, he4]; unfold l4Go; simp
 | cons x suf =>
  obtain ⟨ix, hix⟩ := nm (pre.length * 1)
  have p0 : at' 1 ea i = some (ix, [.int .i64 x]) := by rw [hix]; exact F.get hi hea hl' (fun _ => rfl) (by decide)
  have g1 : lt x n = decide (x < n) := F.lt ..
  have g2 : eq x n = decide (x = n) := F.eq ..
  unfold l4Go at hb
  rw [F.lt_t hi la (by simp [hl'])]; cbv
  rw [p0]; cbv
  refine both (fun d1 => ?_) (fun d1 => ?_) <;> rw [d1] <;> cbv
  ·rw [g1, decide_eq_true_eq] at d1
   rw [if_pos d1] at hb
   refine ih (suf, pre ++ [x], add .i64 i 1) ⟨at_len (F.inc hi (by omega)) (by simp), by rw [hl']; simp, hb⟩ (by simp)
  rw [hQ1]; cbv
  rw [g1, decide_eq_false_iff_not] at d1
  rw [if_neg d1] at hb
  rw [F.lt_t hi la (by simp [hl'])]; cbv
  rw [p0]; cbv
  refine both (fun d2 => ?_) (fun d2 => ?_) <;> rw [d2] <;> cbv
  ·rw [g2, decide_eq_true_eq] at d2
   rw [if_pos d2] at hb
   rw [show allS ea = true from F.scal hea (fun _ => rfl)]; cbv
   rw [F.app_nil hea (fun _ => rfl) (by omega)]; cbv
   rw [hQ]; cbv
   rw [← hr, het, ← hb, hea, hl']
  ·rw [g2, decide_eq_false_iff_not] at d2
   rw [if_neg d2] at hb
   rw [b1]; cbv
   rw [b2]; cbv
   rw [p1]; cbv
   rw [p2]; cbv
   rw [p9]; cbv
   rw [p3]; cbv
   rw [b1]; cbv
   rw [b3]; cbv
   rw [p4]; cbv
   rw [p5]; cbv
   rw [hQ]; cbv
   rw [← hr, het, ← hb, he4]; simp
theorem ok3361 (c : Cur) (q : c.Ok) : fix Tb md 3361 [sCur (row fU c.b) (.sp 0 0) c.ii c.h] = some ⟨[I (byteV c)], [], some (vCur (row fU c.b) (byteC c).ii (byteC c).h)⟩ := by
 obtain ⟨b, i, h⟩ := c
 have q1 := q.1
 have q2 := q.2
 simp only at q1 q2
 obtain ⟨h1, hh1⟩ := nm (w64 (h * 6364136223846793005))
 obtain ⟨h2, hh2⟩ := nm (w64 (h1 + 1442695040888963407))
 have hh3 : stepH h = h2 := by unfold stepH; rw [← hh1, ← hh2]
 obtain ⟨s1, hs1⟩ := nm (shrI h2 33)
 obtain ⟨s2, hs2⟩ := nm (shrI h2 47)
 obtain ⟨x1, hx1⟩ := nm (bitI .xor s1 s2)
 obtain ⟨x2, hx2⟩ := nm (bitI .and x1 255)
 have hm : mixH h2 = x2 := by unfold mixH; rw [← hs1, ← hs2, ← hx1, ← hx2]
 obtain ⟨ii, hii⟩ := nm ((i : Int))
 have r2 := and255 x1
 rw [← hx2] at r2
 suffices hmain : ∀ r, (∀ x, b[i]? = some x → (⟨[I (bitI .and (w64 (x2 + w64 x)) 255)], [], some (vCur (row fU b) (ii + 1) h2)⟩ : Ret) = r) → (b[i]? = none → (⟨[I x2], [], some (vCur (row fU b) ii h2)⟩ : Ret) = r) → fix Tb md 3361 [sCur (row fU b) (.sp 0 0) ii h] = some r by
  rw [hii] at hmain
  refine hmain _ (fun x hx => ?_) (fun hx => ?_)
  ·unfold byteV byteC; simp only [hx, hh3, hm]; simp [Cur.ii]
  ·unfold byteV byteC; simp only [hx, hh3, hm, Cur.ii]
 intro r rA rB
 obtain ⟨eb, heb⟩ := nm (row fU b)
 rw [← heb] at rA rB ⊢
 refine fix_bx (fn := ir3361) tb_3361 rfl rfl rfl (by decide) ?_; intro Q hQ; simp only [List.map_nil, ir3361]
 intro add sub mul arith eq ne lt le gt ge neg conv mn mx not beq len at' ln bd cut app allS isNil mks set o hP F ho
 have lb := F.len_at heb
 have hi : At ii i := hii
 have g1 : mul .i64 h 6364136223846793005 = h1 := by rw [F.mul, hh1]; rfl
 have g2 : add .i64 h1 1442695040888963407 = h2 := by rw [F.add, hh2]; rfl
 have g3 : arith .shr .i64 h2 33 = some (.int .i64 s1) := by rw [F.arith, hs1]; rfl
 have g4 : arith .shr .i64 h2 47 = some (.int .i64 s2) := by rw [F.arith, hs2]; rfl
 have g5 : arith .xor .i64 s1 s2 = some (.int .i64 x1) := by rw [F.arith, hx1]; rfl
 have g6 : arith .and .i64 x1 255 = some (.int .i64 x2) := by rw [F.arith, hx2]; rfl
 cbv
 rw [g1, g2]; cbv
 rw [g3]; cbv
 rw [g4]; cbv
 rw [g5]; cbv
 rw [g6]; cbv
 by_cases hlt : i < b.length
 ·obtain ⟨pre, x, suf, hb, hp⟩ : ∃ pre x suf, b = pre ++ x :: suf ∧ pre.length = i := ⟨b.take i, b[i], b.drop (i + 1), by simp, by simp; omega⟩
  have hx : b[i]? = some x := by rw [hb, ← hp]; simp
  obtain ⟨ix, hix⟩ := nm (pre.length * 1)
  have p0 : at' 1 eb ii = some (ix, [.int .u8 x]) := by rw [hix]; exact F.get (by rw [hp]; exact hi) heb hb (fun _ => rfl) (by decide)
  obtain ⟨y, hy⟩ := nm (w64 x)
  obtain ⟨x3, hx3⟩ := nm (w64 (x2 + y))
  obtain ⟨x4, hx4⟩ := nm (bitI .and x3 255)
  have g7 : conv .i64 x = y := by rw [F.conv, hy]; rfl
  have g8 : add .i64 x2 y = x3 := by rw [F.add, hx3]; rfl
  have g9 : arith .and .i64 x3 255 = some (.int .i64 x4) := by rw [F.arith, hx4]; rfl
  have hb0 : 0 ≤ ii ∧ ii ≤ 1048576 := by
   rw [hii]
   exact ⟨Int.natCast_nonneg i, Int.ofNat_le.2 (Nat.le_trans q1 q2)⟩
  have g10 : add .i64 ii 1 = ii + 1 := by rw [F.add, wrap64 (by omega) (by omega)]
  rw [F.lt_t hi lb hlt]; cbv
  rw [p0]; cbv
  rw [g7, g8]; cbv
  rw [g9]; cbv
  rw [g10, hQ]; cbv
  exact congrArg some (by rw [hx4, hx3, hy]; exact rA x hx)
 ·rw [F.lt_f hi lb (by omega)]; cbv
  rw [hQ]; cbv
  exact congrArg some (rB (List.getElem?_eq_none (by omega)))
theorem ok3317 (c : Cur) (q : c.Ok) (n : Int) (h0 : 0 < n) (h1 : n ≤ 256) : fix Tb md 3317 [sCur (row fU c.b) (.sp 0 0) c.ii c.h, I n] = some ⟨[I (belowV n c)], [], some (vCur (row fU c.b) (byteC c).ii (byteC c).h)⟩ := by
 have k1 := ok3361 c q
 obtain ⟨x, hx⟩ := nm (byteV c)
 obtain ⟨y, hy⟩ := nm (belowV n c)
 have hy2 : y = Int.tmod x n := by rw [hy, hx]; rfl
 obtain ⟨i, hi⟩ := nm (c.ii)
 obtain ⟨h, hh⟩ := nm (c.h)
 obtain ⟨i', hi'⟩ := nm ((byteC c).ii)
 obtain ⟨h', hh'⟩ := nm ((byteC c).h)
 rw [← hx, ← hi, ← hh, ← hi', ← hh'] at k1
 rw [← hy, ← hi, ← hh, ← hi', ← hh']
 generalize hr : (⟨_, [], some _⟩ : Ret) = r
 obtain ⟨eb, heb⟩ := nm (row fU c.b)
 rw [← heb] at k1 hr ⊢
 refine fix_bx (fn := ir3317) tb_3317 rfl rfl rfl (by decide) ?_; intro Q hQ; simp only [List.map_cons, List.map_nil, ir3317]
 intro add sub mul arith eq ne lt le gt ge neg conv mn mx not beq len at' ln bd cut app allS isNil mks set o hP F ho
 have g1 : le n 0 = false := by rw [F.le]; simp; omega
 have g2 : le n 256 = true := by rw [F.le]; simp; omega
 have g3 : arith .rem .i64 x n = some (.int .i64 y) := by rw [F.arith, hy2]; show (if n = 0 then none else some (VA.int .i64 (x.tmod n))) = _; rw [if_neg (by omega)]
 rw [← ho] at k1
 cbv
 rw [g1]; cbv
 rw [g2]; cbv
 rw [k1]; cbv
 rw [g3]; cbv
 rw [hQ]; cbv
 exact congrArg some hr
theorem ok3252 (c : Cur) (q : c.Ok) (l : List Int) (h0 : l ≠ []) (h1 : l.length ≤ 256) {f : Fl} (q0 : inFl f = true) : fix Tb md 3252 [sCur (row fU c.b) (.sp 0 0) c.ii c.h, R (row fI l) f] = some ⟨[I (intV l c)], [], some (vCur (row fU c.b) (byteC c).ii (byteC c).h)⟩ := by
 have hl0 : 0 < l.length := List.length_pos_iff.2 h0
 have k1 := ok3317 c q l.length (by omega) (by omega)
 have hin := belowV_in (n := l.length) (c := c) (by omega)
 obtain ⟨y, hy⟩ := nm (belowV l.length c)
 obtain ⟨z, hz⟩ := nm (intV l c)
 obtain ⟨m, hm⟩ : ∃ m : Nat, y = (m : Int) := ⟨y.toNat, by omega⟩
 have hml : m < l.length := by omega
 have hz2 : z = l.getD m 0 := by rw [hz]; unfold intV; rw [← hy, hm]; rfl
 obtain ⟨pre, x, suf, hls, hp⟩ : ∃ pre x suf, l = pre ++ x :: suf ∧ pre.length = m := ⟨l.take m, l[m], l.drop (m + 1), by simp, by simp; omega⟩
 have hzx : z = x := by rw [hz2, hls, ← hp]; simp
 obtain ⟨n, hn⟩ := nm ((l.length : Int))
 obtain ⟨i, hi⟩ := nm (c.ii)
 obtain ⟨h, hh⟩ := nm (c.h)
 obtain ⟨i', hi'⟩ := nm ((byteC c).ii)
 obtain ⟨h', hh'⟩ := nm ((byteC c).h)
 rw [← hn] at hy
 rw [← hn, ← hy, ← hi, ← hh, ← hi', ← hh'] at k1
 rw [← hz, ← hi, ← hh, ← hi', ← hh']
 generalize hr : (⟨_, [], some _⟩ : Ret) = r
 obtain ⟨eb, heb⟩ := nm (row fU c.b)
 obtain ⟨el, hel⟩ := nm (row fI l)
 obtain ⟨ix, hix⟩ := nm (pre.length * 1)
 rw [← heb] at k1 hr ⊢
 rw [← hel]
 refine fix_bx (fn := ir3252) tb_3252 rfl rfl rfl (by decide) ?_; intro Q hQ; simp only [shutS, List.map_cons, List.map_nil, ir3252, shut_in q0]
 intro add sub mul arith eq ne lt le gt ge neg conv mn mx not beq len at' ln bd cut app allS isNil mks set o hP F ho
 have g1 : len el = n := by rw [hn]; exact F.len_at hel
 have p0 : at' 1 el y = some (ix, [.int .i64 x]) := by rw [hix]; exact F.get (by rw [hp]; exact hm) hel hls (fun _ => rfl) (by decide)
 rw [← ho] at k1
 cbv
 rw [g1, k1]; cbv
 rw [p0]; cbv
 rw [← hzx, hQ]; cbv
 exact congrArg some hr
def finW (fn : FnIr) (args : List SU) (L : Nat) (W : Option Ret → Prop) (ex : Ex) (m : Mp) : Prop := match ex with
 | .normal => W (finish fn args (S L m))
 | .ret => W (finish fn args (S L m))
 | .exit _ => False
theorem fix_wpE {T : Nat → Option FnIr} {md : Modes} {g : Nat} {fn : FnIr} (hT : T g = some fn) (hsp : fn.sp = 0) {args : List SU} (hlen : args.length = fn.np) (hle : fn.np ≤ fn.ntmps) {p : Ret → Prop} {m : Mp} (hm : start fn (shutArgs fn.modes args) = S (2 * fn.ntmps + 2) m)
  (hw : wpc std (fix T md) md fn.ntmps (2 * fn.ntmps + 2) fn.body m (finW fn (shutArgs fn.modes args) (2 * fn.ntmps + 2) fun o => ∃ r, o = some r ∧ p r)) : ∃ r, fix T md g args = some r ∧ p r := by
 obtain ⟨n, ex, st, h, m', rfl, hq⟩ := wpc_sound _ _ hw
 rw [← hm] at h
 cases ex with
 | normal => obtain ⟨r, h1, h2⟩ := hq; exact ⟨r, fix_body hT hsp hlen hle h (.inl rfl) h1, h2⟩
 | ret => obtain ⟨r, h1, h2⟩ := hq; exact ⟨r, fix_body hT hsp hlen hle h (.inr rfl) h1, h2⟩
 | exit i => exact hq.elim
theorem fix_bxE {T : Nat → Option FnIr} {md : Modes} {g : Nat} {fn : FnIr} (hT : T g = some fn) (hsp : fn.sp = 0) (hm : fn.modes = [.mbox]) {cs : List (Cell Unit)} {rest : List SU} (hlen : rest.length + 1 = fn.np) (hle : fn.np ≤ fn.ntmps) {p : Ret → Prop}
  (hw : ∀ Q W, (∀ r, p r → W (some r)) → Q = finW fn (⟨.box (), cs⟩ :: rest.map shutS) (2 * fn.ntmps + 2) W → Sym (fun P O => wpc P O md fn.ntmps (2 * fn.ntmps + 2) fn.body (enumS 0 (⟨.ptr (lockS fn.ntmps + 1) 0, []⟩ :: rest.map shutS) ++ [(lockS fn.ntmps + 1, ⟨.box (), cs⟩)]) Q) (fix T md)) : ∃ r, fix T md g (⟨.box (), cs⟩ :: rest) = some r ∧ p r := by
 have hs : shutArgs fn.modes (⟨.box (), cs⟩ :: rest) = ⟨.box (), cs⟩ :: rest.map shutS := by rw [hm]; rfl
 refine fix_wpE hT hsp (by simpa using hlen) hle (m := enumS 0 (⟨.ptr (lockS fn.ntmps + 1) 0, []⟩ :: rest.map shutS) ++ [(lockS fn.ntmps + 1, ⟨.box (), cs⟩)]) ?_ ?_
 ·rw [hs]; exact start_box (by simpa using hlen) hle
 ·rw [hs]; exact (hw _ _ (fun r h => ⟨r, rfl, h⟩) rfl).at
theorem fix_fnE {T : Nat → Option FnIr} {md : Modes} {g : Nat} {fn : FnIr} (hT : T g = some fn) (hsp : fn.sp = 0) {args : List SU} (hlen : args.length = fn.np) (hle : fn.np ≤ fn.ntmps) (hb : args.all noBox = true) {p : Ret → Prop}
  (hw : ∀ Q W, (∀ r, p r → W (some r)) → Q = finW fn (shutArgs fn.modes args) (2 * fn.ntmps + 2) W → Sym (fun P O => wpc P O md fn.ntmps (2 * fn.ntmps + 2) fn.body (enumS 0 (shutArgs fn.modes args)) Q) (fix T md)) : ∃ r, fix T md g args = some r ∧ p r := by
 refine fix_wpE hT hsp hlen hle (start_S (by rw [shut_len]; exact hlen) hle (fun s l t e hk => ?_)) (hw _ _ (fun r h => ⟨r, rfl, h⟩) rfl).at
 unfold shutArgs at e
 have hbs : ∀ x ∈ args, noBox x = true := by simpa using hb
 split at e
 ·have := hbs s (by rw [e]; exact List.mem_cons_self ..)
  simp [noBox, hk] at this
 ·cases args with
  | nil => simp at e
  | cons x xs =>
   simp only [List.map_cons, List.cons.injEq] at e
   have := hbs x (List.mem_cons_self ..)
   obtain ⟨k, cs⟩ := x
   rw [← e.1] at hk
   cases k <;> simp [shutS] at hk
   simp [noBox] at this
def CW (B : List Int) (i : Int) : Prop := ∃ n : Nat, i = n ∧ n ≤ B.length ∧ B.length ≤ 1048576
theorem CW.cur {B : List Int} {i : Int} (w : CW B i) (h : Int) : ∃ c : Cur, c.Ok ∧ c.b = B ∧ c.ii = i ∧ c.h = h := by
 obtain ⟨n, rfl, h1, h2⟩ := w
 exact ⟨⟨B, n, h⟩, ⟨h1, h2⟩, rfl, rfl, rfl⟩
theorem Cur.Ok.cw {c : Cur} (q : c.Ok) : CW c.b c.ii := ⟨c.i, rfl, q.1, q.2⟩
def Draws (g : Nat) (B : List Int) (eb : List (List V)) (i h : Int) (args : List SU) (p : SU → Prop) : Prop :=
 ∃ v i' h', fix Tb md g (sCur eb (.sp 0 0) i h :: args) = some ⟨[v], [], some (vCur eb i' h')⟩ ∧ CW B i' ∧ p v
theorem below_dr {B : List Int} {i : Int} (w : CW B i) (h n : Int) (h0 : 0 < n) (h1 : n ≤ 256) : ∃ x i' h', fix Tb md 3317 [sCur (row fU B) (.sp 0 0) i h, I n] = some ⟨[I x], [], some (vCur (row fU B) i' h')⟩ ∧ CW B i' ∧ 0 ≤ x ∧ x < n := by
 obtain ⟨c, q, rfl, rfl, rfl⟩ := w.cur h
 exact ⟨_, _, _, ok3317 c q n h0 h1, (byteC_ok q).cw, belowV_in h0⟩
theorem int_dr {B : List Int} {i : Int} (w : CW B i) (h : Int) (l : List Int) (h0 : l ≠ []) (h1 : l.length ≤ 256) {f : Fl} (q0 : inFl f = true) : ∃ x i' h', fix Tb md 3252 [sCur (row fU B) (.sp 0 0) i h, R (row fI l) f] = some ⟨[I x], [], some (vCur (row fU B) i' h')⟩ ∧ CW B i' ∧ x ∈ l := by
 obtain ⟨c, q, rfl, rfl, rfl⟩ := w.cur h
 exact ⟨_, _, _, ok3252 c q l h0 h1 q0, (byteC_ok q).cw, intV_mem h0⟩
def VL (k : Nat) (l : List Int) : Prop := l.length ≤ k ∧ ∀ x ∈ l, -1 ≤ x ∧ x ≤ 256
def XL (k : Nat) (l : List Ext) : Prop := l.length ≤ k ∧ ∀ y ∈ l, (-1 ≤ y.tag ∧ y.tag ≤ 256) ∧ VL 5 y.body
theorem l4Go_mem (n : Int) : ∀ (suf pre : List Int), ∀ x ∈ l4Go n pre suf, x = n ∨ x ∈ pre ∨ x ∈ suf
 | [], pre => by
  intro x hx
  unfold l4Go at hx
  rcases List.mem_append.1 hx with h | h
  ·exact .inr (.inl h)
  ·simp at h; exact .inl h
 | y :: suf, pre => by
  intro x hx
  unfold l4Go at hx
  split at hx
  ·rcases l4Go_mem n suf _ x hx with h | h | h
   ·exact .inl h
   ·simp at h; rcases h with h | h <;> simp [h]
   ·simp [h]
  ·split at hx
   ·rcases List.mem_append.1 hx with h | h
    ·simp [h]
    ·exact .inr (.inr h)
   ·rcases List.mem_append.1 hx with h | h
    ·simp [h]
    ·rcases List.mem_cons.1 h with h | h
     ·exact .inl h
     ·exact .inr (.inr h)
theorem l4Go_ne (n : Int) : ∀ (suf pre : List Int), l4Go n pre suf ≠ []
 | [], pre => by unfold l4Go; simp
 | y :: suf, pre => by
  unfold l4Go
  split
  ·exact l4Go_ne n suf _
  ·split <;> simp
theorem l4V_VL {k : Nat} {l : List Int} {n : Int} (h : VL k l) (h1 : -1 ≤ n) (h2 : n ≤ 256) : VL (k + 1) (l4V l n) := by
 refine ⟨by have := l4V_len l n; have := h.1; omega, fun x hx => ?_⟩
 rcases l4Go_mem n l [] x hx with e | e | e
 ·rw [e]; exact ⟨h1, h2⟩
 ·simp at e
 ·exact h.2 x e
theorem l4V_ne (l : List Int) (n : Int) : l4V l n ≠ [] := l4Go_ne n l []
theorem VL.one {n : Int} (h1 : -1 ≤ n) (h2 : n ≤ 256) : VL 1 [n] := ⟨by simp, fun x hx => by simp at hx; rw [hx]; exact ⟨h1, h2⟩⟩
theorem VL.mono {k m : Nat} {l : List Int} (h : VL k l) (hm : k ≤ m) : VL m l := ⟨Nat.le_trans h.1 hm, h.2⟩
theorem VL.push {k : Nat} {l : List Int} {n : Int} (h : VL k l) (h1 : -1 ≤ n) (h2 : n ≤ 256) : VL (k + 1) (l ++ [n]) := by
 refine ⟨by have := h.1; simp; omega, fun x hx => ?_⟩
 rcases List.mem_append.1 hx with e | e
 ·exact h.2 x e
 ·simp at e; rw [e]; exact ⟨h1, h2⟩
def YL (l : List Ext) : Prop := l.length ≤ 6 ∧ ∀ y ∈ l, (-1 ≤ y.tag ∧ y.tag ≤ 256) ∧ VL 6 y.body
theorem XL.yl {l : List Ext} (h : XL 5 l) : YL l := ⟨by have := h.1; omega, fun y hy => ⟨(h.2 y hy).1, (h.2 y hy).2.mono (by decide)⟩⟩
def BL (b : Box) : Prop := (-1 ≤ b.limit ∧ b.limit ≤ 10) ∧ VL 8 b.drops ∧ VL 8 b.strips
def NO {α : Type} (f : Fl) (l : List α) : Prop := (f = .nl ∧ l = []) ∨ f = .ow false
def PL (k : Nat) (l : List Box) : Prop := l.length ≤ k ∧ ∀ b ∈ l, BL b
theorem PL.mono {k m : Nat} {l : List Box} (h : PL k l) (hm : k ≤ m) : PL m l := ⟨Nat.le_trans h.1 hm, h.2⟩
theorem PL.push {k : Nat} {l : List Box} {x : Box} (h : PL k l) (h1 : BL x) : PL (k + 1) (l ++ [x]) := by
 refine ⟨by have := h.1; simp; omega, fun y hy => ?_⟩
 rcases List.mem_append.1 hy with e | e
 ·exact h.2 y e
 ·simp at e; rw [e]; exact h1
theorem dr3248 {B : List Int} {i : Int} (w : CW B i) (h : Int) : ∃ r, fix Tb md 3248 [sCur (row fU B) (.sp 0 0) i h] = some r ∧ ∃ l i' h', r = ⟨[R (row fI l) (.ow false)], [], some (vCur (row fU B) i' h')⟩ ∧ CW B i' ∧ VL 4 l ∧ l ≠ [] := by
 obtain ⟨n1, i1, h1, k1, w1, r1, r1'⟩ := below_dr w h 4 (by decide) (by decide)
 obtain ⟨n2, i2, h2, k2, w2, r2, r2'⟩ := below_dr w1 h1 4 (by decide) (by decide)
 have kb := fun {i : Int} (w : CW B i) (h : Int) => below_dr w h 6 (by decide) (by decide)
 have kp := fun (l : List Int) (n : Int) (hl : l.length ≤ 1073741824) => ok345 l n hl (f0 := .sp 0 0) rfl
 obtain ⟨eb, heb⟩ := nm (row fU B)
 rw [← heb] at k1 k2 kb ⊢
 refine fix_bxE (fn := ir3248) tb_3248 rfl rfl rfl (by decide) ?_; intro Q W hW hQ; simp only [List.map_nil, ir3248]
 have hW' : ∀ el i' h' l, el = row fI l → CW B i' → VL 4 l → l ≠ [] → W (some ⟨[R el (.ow false)], [], some (vCur eb i' h')⟩) := fun el i' h' l e a b c => hW _ ⟨l, i', h', by rw [e], a, b, c⟩
 clear hW
 intro add sub mul arith eq ne lt le gt ge neg conv mn mx not beq len at' ln bd cut app allS isNil mks set o hP F ho
 rw [← ho] at k1 k2 kb kp
 have hgt : ∀ (z : Int) (n : Nat), z = (n : Int) → gt z 0 = decide (0 < n) := fun z n e => by rw [F.gt, e]; simp
 have hdec : ∀ (z : Int) (n : Nat), z = ((n + 1 : Nat) : Int) → n ≤ 1000 → sub .i64 z 1 = (n : Int) := fun z n e hn => by rw [F.sub, e, wrap64 (by omega) (by omega)]; omega
 have a1 : add .i64 1 n1 = 1 + n1 := by rw [F.add, wrap64 (by omega) (by omega)]
 have hl1 : VL 1 [add .i64 1 n1] := by rw [a1]; exact VL.one (by omega) (by omega)
 clear a1
 cbv
 rw [k1]; cbv
 rw [k2]; cbv
 refine loop_ind2 hP (σ := Nat × List Int × Int × List (List V) × Int × Int) (fun s => [(0, ⟨.ptr 43 0, []⟩), (2, R [] .nl), (3, R s.2.2.2.1 (.ow false)), (4, I s.2.2.1), (43, ⟨.box (), [⟨.row () eb, .sp 0 0⟩, ⟨.int .i64 s.2.2.2.2.1, .sc⟩, ⟨.int .i64 s.2.2.2.2.2, .sc⟩]⟩)]) (fun s => CW B s.2.2.2.2.1 ∧ s.2.2.1 = (s.1 : Int) ∧ s.2.2.2.1 = row fI s.2.1 ∧ s.1 ≤ 3 ∧ VL (4 - s.1) s.2.1 ∧ s.2.1 ≠ []) (fun s => s.1) (n2.toNat, [add .i64 1 n1], n2, [[.int .i64 (add .i64 1 n1)]], i2, h2) rfl ⟨w2, by simp only; omega, rfl, by simp only; omega, hl1.mono (by simp only; omega), by simp⟩ ?_
 intro c9 Q1 hc9 hQ1
 rintro ⟨n, l, nn, el, i, h⟩ ⟨hw, hnn, hel, hn, hl, hne⟩ ih
 simp only at hw hnn hel hn hl hne ih
 cbv
 cases n with
 | zero =>
  rw [hgt nn 0 hnn]; cbv
  rw [hQ1]; cbv
  rw [hQ]; cbv
  exact hW' el i h l hel hw hl hne
 | succ n =>
  rw [hgt nn (n + 1) hnn]; cbv
  obtain ⟨x, i', h', k, w', rx, rx'⟩ := kb hw h
  obtain ⟨y, hy⟩ := nm (add .i64 1 x)
  have a2 : y = 1 + x := by rw [hy, F.add, wrap64 (by omega) (by omega)]
  obtain ⟨el', hel'⟩ := nm (row fI (l4V l y))
  have kq : o 345 [R el (.sp 0 0), I y] = some ⟨[R el' (.ow false)], [], none⟩ := by rw [hel, hel']; exact kp l y (by have := hl.1; omega)
  rw [k]; cbv
  rw [← hy, kq]; cbv
  rw [hdec nn n hnn (by omega)]
  exact ih (n, l4V l y, (n : Int), el', i', h') ⟨w', rfl, hel', by omega, by have := l4V_VL hl (n := y) (by omega) (by omega); exact this.mono (by omega), l4V_ne _ _⟩ (by simp)
end Go.Vm
