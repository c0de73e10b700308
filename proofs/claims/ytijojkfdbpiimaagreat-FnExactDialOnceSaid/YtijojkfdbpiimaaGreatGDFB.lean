/- What the functions answer. -/
import Derived.Test.YtijojkfdbpiimaaGreatGDTab
import Derived.Test.YtijojkfdbpiimaaGreatGDFA
set_option maxHeartbeats 4000000
set_option maxRecDepth 10000
set_option linter.unusedVariables false
set_option linter.unusedSimpArgs false
namespace Go.Vm
def gaP (x : Hello) (e : Ext) : Bool := decide (extOf x.exts e.tag < 0) && inR e.tag 0 255
def gaF (e : Ext) : Int := 1000 + e.tag
def givenV (h x : Hello) : List Int := sel (notIn x.versions) idI h.versions ++ sel (gaP x) gaF h.exts
theorem givenV_len (h x : Hello) : (givenV h x).length ≤ h.versions.length + h.exts.length := by
 unfold givenV
 have h1 : (sel (notIn x.versions) idI h.versions).length ≤ h.versions.length := sel_len
 have h2 : (sel (gaP x) gaF h.exts).length ≤ h.exts.length := sel_len
 rw [List.length_append]; omega
theorem ok149 (h x : Hello) (a1 : h.versions.length ≤ 1048576) (a2 : x.versions.length ≤ 1048576) (a3 : h.exts.length ≤ 1048576) (a4 : x.exts.length ≤ 1048576) {f0 f1 f2 f3 : Fl} (q0 : inFl f0 = true) (q1 : inFl f1 = true) (q2 : inFl f2 = true) (q3 : inFl f3 = true) : fix Tb md 149 [sHello (row fI h.versions) (row fExt h.exts) f0 f1, sHello (row fI x.versions) (row fExt x.exts) f2 f3] = some ⟨[R (row fI (givenV h x)) (.ow false)], [], none⟩ := by
 obtain ⟨et, het⟩ := nm (row fI (givenV h x))
 rw [← het]
 generalize hr : (⟨_, [], none⟩ : Ret) = r
 obtain ⟨dv, hdv⟩ := nm (row fI h.versions)
 obtain ⟨dx, hdx⟩ := nm (row fExt h.exts)
 obtain ⟨ev, hev⟩ := nm (row fI x.versions)
 obtain ⟨ex, hex⟩ := nm (row fExt x.exts)
 rw [← hdv, ← hdx, ← hev, ← hex]
 obtain ⟨W, hW⟩ := nm (sel (notIn x.versions) idI h.versions)
 obtain ⟨ew, hew⟩ := nm (row fI W)
 have hWl : W.length ≤ 1048576 := by rw [hW]; exact Nat.le_trans sel_len a1
 refine fix_fn2 (fn := ir149) tb_149 rfl rfl (by decide) rfl ?_; intro Q hQ; simp only [shutArgs, shutS, List.map_cons, List.map_nil, ir149, shut_in q0, shut_in q1, shut_in q2, shut_in q3, List.head?_nil, reduceCtorEq, if_false, sExt, sHello, sAnswer, sEdit, sDeal, sBox, sDialed, sKnown]
 intro add sub mul arith eq ne lt le gt ge neg conv mn mx not beq len at' ln bd cut app allS isNil mks set o hP F ho
 have lx := F.len_at hdx
 have c1 : o 292 [R dv (.sp 0 0), R ev (.sp 1 0)] = some ⟨[R ew (.ow false)], [], none⟩ := by rw [ho, hew, hW, hdv, hev]; exact ok292 _ _ (by omega) (by omega) rfl rfl
 cbv
 rw [c1]; cbv
 refine loop_ind2 hP (σ := List Ext × List Ext × List (List V) × Int) (fun s => [(0, sHello dv dx .sh .sh), (1, sHello ev ex .sh .sh), (2, ⟨.ptr 51 0, []⟩), (3, ⟨.ptr 52 0, []⟩), (4, R [] .nl), (5, R s.2.2.1 (.ow false)), (6, I s.2.2.2), (51, ⟨.box (), [⟨.row () dv, .sh⟩, ⟨.row () dx, .sh⟩]⟩), (52, ⟨.box (), [⟨.row () ev, .sh⟩, ⟨.row () ex, .sh⟩]⟩)]) (fun s => At s.2.2.2 s.2.1.length ∧ h.exts = s.2.1 ++ s.1 ∧ s.2.2.1 = row fI (W ++ sel (gaP x) gaF s.2.1)) (fun s => s.1.length) (h.exts, [], ew, 0) rfl ⟨rfl, rfl, by rw [hew]; simp [sel]⟩ ?_
 intro c1 Q1 hc1 hQ1
 rintro ⟨suf, pre, eo, i⟩ ⟨hi, hl', hb⟩ ih
 simp only at hi hl' hb ih
 cbv
 cases suf with
 | nil =>
  rw [F.lt_f hi lx (by simp [hl'])]; cbv
  rw [hQ1]; cbv
  rw [hQ]; cbv
  rw [← hr, het, hb, givenV, hl', List.append_nil, hW]
 | cons y suf =>
  obtain ⟨ix, hix⟩ := nm (pre.length * 2)
  obtain ⟨e1, he1⟩ := nm (row fI y.body)
  have hpre : pre.length ≤ 1048576 := by rw [hl'] at a3; simp at a3; omega
  have hs : (sel (gaP x) gaF pre).length ≤ pre.length := sel_len
  have hi' : At (add .i64 i 1) (pre ++ [y]).length := at_len (F.inc hi (by omega)) (by simp)
  have hl2 : h.exts = (pre ++ [y]) ++ suf := by rw [hl']; simp
  have p0 : at' 2 dx i = some (ix, [.int .i64 y.tag, .row () e1]) := by rw [hix, he1]; exact F.get hi hdx hl' (fun _ => rfl) (by decide)
  obtain ⟨v, hvv⟩ := nm (extOf x.exts y.tag)
  obtain ⟨b1, hb1⟩ := nm (decide (v < 0))
  obtain ⟨b2, hb2⟩ := nm (inR y.tag 0 255)
  have hP' : gaP x y = (b1 && b2) := by rw [hb1, hb2, hvv]; rfl
  have c2 : o 286 [R ex (.sp 0 0), I y.tag] = some ⟨[I v], [], none⟩ := by rw [ho, hvv, hex]; exact ok286 _ _ (by omega) rfl
  have c3 : o 230 [I y.tag, I 0, I 255] = some ⟨[B b2], [], none⟩ := by rw [ho, hb2]; exact ok230 ..
  have g1 : lt v 0 = b1 := by rw [F.lt, hb1]
  obtain ⟨eo', heo'⟩ := nm (row fI (W ++ sel (gaP x) gaF pre ++ [gaF y]))
  have q1 : b2 = true → app 1 eo [[.int .i64 (add .i64 1000 y.tag)]] = some eo' := by
   intro q
   rw [hb2] at q
   simp [inR] at q
   rw [show add .i64 1000 y.tag = gaF y by rw [F.add, wrap64 (by omega) (by omega)]; rfl, heo']
   exact F.push hb (fun _ => rfl) rfl (by rw [List.length_append]; omega)
  have q2 : allS [[.int .i64 (add .i64 1000 y.tag)]] = true := by rw [F.allS]; rfl
  rw [F.lt_t hi lx (by simp [hl'])]; cbv
  rw [p0]; cbv
  rw [c2]; cbv
  rw [g1]; cbv
  refine both (fun d1 => ?_) (fun d1 => ?_) <;> rw [d1] <;> cbv
  ·rw [p0]; cbv
   rw [c3]; cbv
   refine both (fun d2 => ?_) (fun d2 => ?_) <;> rw [d2] <;> cbv
   ·rw [p0]; cbv
    rw [q2]; cbv
    rw [q1 d2]; cbv
    refine ih (suf, pre ++ [y], eo', add .i64 i 1) ⟨hi', hl2, by simp only; rw [heo', sel_t (by rw [hP', d1, d2]; rfl)]; simp⟩ (by simp)
   ·refine ih (suf, pre ++ [y], eo, add .i64 i 1) ⟨hi', hl2, by simp only; rw [hb, sel_f (by rw [hP', d2]; simp)]⟩ (by simp)
  ·refine ih (suf, pre ++ [y], eo, add .i64 i 1) ⟨hi', hl2, by simp only; rw [hb, sel_f (by rw [hP', d1]; rfl)]⟩ (by simp)
def yesE (_ : Ext) : Bool := true
theorem ok280 (l : List Ext) (hl : l.length ≤ 1073741824) {f0 : Fl} (h0 : inFl f0 = true) : fix Tb md 280 [R (row fExt l) f0] = some ⟨[R (row fI (sel yesE Ext.tag l)) (.ow false)], [], none⟩ := by
 obtain ⟨et, het⟩ := nm (row fI (sel yesE Ext.tag l))
 rw [← het]
 generalize hr : (⟨_, [], none⟩ : Ret) = r
 obtain ⟨ea, hea⟩ := nm (row fExt l)
 rw [← hea]
 refine fix_fn2 (fn := ir280) tb_280 rfl rfl (by decide) rfl ?_; intro Q hQ; simp only [shutArgs, shutS, List.map_cons, List.map_nil, ir280, shut_in h0, List.head?_nil, reduceCtorEq, if_false, sExt, sHello, sAnswer, sEdit, sDeal, sBox, sDialed, sKnown]
 intro add sub mul arith eq ne lt le gt ge neg conv mn mx not beq len at' ln bd cut app allS isNil mks set o hP F ho
 have la := F.len_at hea
 cbv
 refine loop_ind2 hP (σ := List Ext × List Ext × List (List V) × Int) (fun s => [(0, R ea .sh), (2, R [] .nl), (3, R s.2.2.1 (.ow false)), (4, I s.2.2.2)]) (fun s => At s.2.2.2 s.2.1.length ∧ l = s.2.1 ++ s.1 ∧ s.2.2.1 = row fI (sel yesE Ext.tag s.2.1)) (fun s => s.1.length) (l, [], [], 0) rfl ⟨rfl, rfl, rfl⟩ ?_
 intro c1 Q1 hc1 hQ1
 rintro ⟨suf, pre, eo, i⟩ ⟨hi, hl', hb⟩ ih
 simp only at hi hl' hb ih
 cbv
 cases suf with
 | nil =>
  rw [F.lt_f hi la (by simp [hl'])]; cbv
  rw [hQ1]; cbv
  rw [hQ]; cbv
  rw [← hr, het, hb, hl', List.append_nil]
 | cons x suf =>
  obtain ⟨ix, hix⟩ := nm (pre.length * 2)
  have hpre : pre.length ≤ 1073741824 := by rw [hl'] at hl; simp at hl; omega
  have hs : (sel yesE Ext.tag pre).length ≤ pre.length := sel_len
  have hi' : At (add .i64 i 1) (pre ++ [x]).length := at_len (F.inc hi (by omega)) (by simp)
  have hl2 : l = (pre ++ [x]) ++ suf := by rw [hl']; simp
  have hmem : x ∈ l := by rw [hl']; simp
  obtain ⟨e1, he1⟩ := nm (row fI x.body)
  have p0 : at' 2 ea i = some (ix, [.int .i64 x.tag, .row () e1]) := by rw [hix, he1]; exact F.get hi hea hl' (fun _ => rfl) (by decide)
  rw [F.lt_t hi la (by simp [hl'])]; cbv
  rw [p0]; cbv
  rw [show allS [[.int .i64 x.tag]] = true by rw [F.allS]; rfl]; cbv
  obtain ⟨eo', heo'⟩ := nm (row fI (sel yesE Ext.tag pre ++ [Ext.tag x]))
  rw [show app 1 eo [[.int .i64 x.tag]] = some eo' by rw [heo']; exact F.push hb (fun _ => rfl) rfl (by omega)]; cbv
  refine ih (suf, pre ++ [x], eo', add .i64 i 1) ⟨hi', hl2, by simp only; rw [heo', sel_t rfl]⟩ (by simp)
theorem ok179 (l : List Ext) (hl : l.length ≤ 1073741824) {f0 : Fl} (h0 : inFl f0 = true) : fix Tb md 179 [R (row fExt l) f0] = some ⟨[R (row fI (sel yesE Ext.tag l)) (.ow false)], [], none⟩ := by
 obtain ⟨et, het⟩ := nm (row fI (sel yesE Ext.tag l))
 rw [← het]
 generalize hr : (⟨_, [], none⟩ : Ret) = r
 obtain ⟨ea, hea⟩ := nm (row fExt l)
 rw [← hea]
 refine fix_fn2 (fn := ir179) tb_179 rfl rfl (by decide) rfl ?_; intro Q hQ; simp only [shutArgs, shutS, List.map_cons, List.map_nil, ir179, shut_in h0, List.head?_nil, reduceCtorEq, if_false, sExt, sHello, sAnswer, sEdit, sDeal, sBox, sDialed, sKnown]
 intro add sub mul arith eq ne lt le gt ge neg conv mn mx not beq len at' ln bd cut app allS isNil mks set o hP F ho
 have la := F.len_at hea
 cbv
 refine loop_ind2 hP (σ := List Ext × List Ext × List (List V) × Int × Option (Int × List (List V))) (fun s => match s.2.2.2.2 with | none => [(0, R ea .sh), (2, R [] .nl), (3, R s.2.2.1 (.ow false)), (7, R ea .sh), (8, I (len ea)), (9, I s.2.2.2.1)] | some j => [(0, R ea .sh), (2, R [] .nl), (3, R s.2.2.1 (.ow false)), (5, ⟨.ptr 25 0, []⟩), (7, R ea .sh), (8, I (len ea)), (9, I s.2.2.2.1), (25, ⟨.box (), [⟨.int .i64 j.1, .sc⟩, ⟨.row () j.2, .sh⟩]⟩)]) (fun s => At s.2.2.2.1 s.2.1.length ∧ l = s.2.1 ++ s.1 ∧ s.2.2.1 = row fI (sel yesE Ext.tag s.2.1)) (fun s => s.1.length) (l, [], [], 0, none) rfl ⟨rfl, rfl, rfl⟩ ?_
 intro c1 Q1 hc1 hQ1
 rintro ⟨suf, pre, eo, i, j⟩ ⟨hi, hl', hb⟩ ih
 simp only at hi hl' hb ih
 rcases j with _ | ⟨j1, j2⟩
 all_goals
  cbv
  cases suf with
  | nil =>
   rw [F.lt_f hi la (by simp [hl'])]; cbv
   rw [hQ1]; cbv
   rw [hQ]; cbv
   rw [← hr, het, hb, hl', List.append_nil]
  | cons x suf =>
   obtain ⟨ix, hix⟩ := nm (pre.length * 2)
   have hpre : pre.length ≤ 1073741824 := by rw [hl'] at hl; simp at hl; omega
   have hs : (sel yesE Ext.tag pre).length ≤ pre.length := sel_len
   have hi' : At (add .i64 i 1) (pre ++ [x]).length := at_len (F.inc hi (by omega)) (by simp)
   have hl2 : l = (pre ++ [x]) ++ suf := by rw [hl']; simp
   have hmem : x ∈ l := by rw [hl']; simp
   obtain ⟨e1, he1⟩ := nm (row fI x.body)
   have p0 : at' 2 ea i = some (ix, [.int .i64 x.tag, .row () e1]) := by rw [hix, he1]; exact F.get hi hea hl' (fun _ => rfl) (by decide)
   rw [F.lt_t hi la (by simp [hl'])]; cbv
   rw [p0]; cbv
   rw [show allS [[.int .i64 x.tag]] = true by rw [F.allS]; rfl]; cbv
   obtain ⟨eo', heo'⟩ := nm (row fI (sel yesE Ext.tag pre ++ [Ext.tag x]))
   rw [show app 1 eo [[.int .i64 x.tag]] = some eo' by rw [heo']; exact F.push hb (fun _ => rfl) rfl (by omega)]; cbv
   refine ih (suf, pre ++ [x], eo', add .i64 i 1, some (x.tag, e1)) ⟨hi', hl2, by simp only; rw [heo', sel_t rfl]⟩ (by simp)
theorem ok232 (x lo hi : Int) : fix Tb md 232 [I x, I lo, I hi] = some ⟨[B (inR x lo hi)], [], none⟩ := by
 refine fix_fn (fn := ir232) tb_232 rfl rfl (by decide) rfl ?_; simp only [shutArgs, shutS, List.map_cons, List.map_nil, ir232, List.head?_nil, reduceCtorEq, if_false, sExt, sHello, sAnswer, sEdit, sDeal, sBox, sDialed, sKnown]
 generalize hr : (⟨_, [], none⟩ : Ret) = r
 intro add sub mul arith eq ne lt le gt ge neg conv mn mx not beq len at' ln bd cut app allS isNil mks set o hP F ho
 cbv
 repeat' (first | (refine both (fun c => ?_) (fun c => ?_) <;> (try rw [c]) <;> (try cbv)))
 all_goals (clear hP  ho; try simp only [F.eq, F.ne, F.le, F.lt, F.ge, F.gt, F.not, F.beq] at *; clear F; subst hr)
 all_goals (simp_all [inR] <;> (intros; omega))
theorem hasI_ix (l : List Int) (n : Int) : decide (0 ≤ ixOf (fun y => decide (y = n)) l 0) = hasI l n := ixOf_ge _ l 0 (by decide)
theorem ok354 (l : List Int) (n : Int) (hl : l.length ≤ 1099511627776) {f0 : Fl} (h0 : inFl f0 = true) : fix Tb md 354 [R (row fI l) f0, I n] = some ⟨[I (ixOf (fun y => decide (y = n)) l 0)], [], none⟩ := by
 obtain ⟨T, hT⟩ := nm (ixOf (fun y => decide (y = n)) l 0)
 rw [← hT]
 generalize hr : (⟨_, [], none⟩ : Ret) = r
 obtain ⟨ea, hea⟩ := nm (row fI l)
 rw [← hea]
 refine fix_fn2 (fn := ir354) tb_354 rfl rfl (by decide) rfl ?_; intro Q hQ; simp only [shutArgs, shutS, List.map_cons, List.map_nil, ir354, shut_in h0, List.head?_nil, reduceCtorEq, if_false, sExt, sHello, sAnswer, sEdit, sDeal, sBox, sDialed, sKnown]
 intro add sub mul arith eq ne lt le gt ge neg conv mn mx not beq len at' ln bd cut app allS isNil mks set o hP F ho
 have la := F.len_at hea
 cbv
 refine loop_ind2 hP (σ := List Int × List Int × Int × Option Int) (fun s => match s.2.2.2 with | none => [(0, R ea .sh), (1, I n), (4, I 0), (7, I (len ea)), (8, I s.2.2.1)] | some j => [(0, R ea .sh), (1, I n), (4, I 0), (5, I j), (7, I (len ea)), (8, I s.2.2.1)]) (fun s => At s.2.2.1 s.2.1.length ∧ l = s.2.1 ++ s.1 ∧ ixOf (fun y => decide (y = n)) s.1 s.2.2.1 = T) (fun s => s.1.length) (l, [], 0, none) rfl ⟨rfl, rfl, hT.symm⟩ ?_
 intro c1 Q1 hc1 hQ1
 rintro ⟨suf, pre, i, j⟩ ⟨hi, hl', hb⟩ ih
 simp only at hi hl' hb ih
 have hpre : pre.length ≤ 1099511627776 := by rw [hl'] at hl; simp at hl; omega
 rcases j with _ | _
 all_goals
  cbv
  cases suf with
  | nil =>
   rw [F.lt_f hi la (by simp [hl'])]; cbv
   rw [hQ1]; cbv
   rw [hQ]; cbv
   rw [← hr, ← hb]; rfl
  | cons x suf =>
   obtain ⟨v, hv⟩ := nm (decide (x = n))
   have hb' : T = if v = true then i else ixOf (fun y => decide (y = n)) suf (i + 1) := by rw [← hb, hv]; rfl
   have hinc : add .i64 i 1 = i + 1 := by unfold At at hi; rw [F.add, hi, wrap64 (by omega) (by omega)]
   obtain ⟨ix, hix⟩ := nm (pre.length * 1)
   rw [F.lt_t hi la (by simp [hl'])]; cbv
   rw [show at' 1 ea i = some (ix, [.int .i64 x]) by rw [hix]; exact F.get hi hea hl' (fun _ => rfl) (by decide)]; cbv
   rw [show eq n x = v by rw [F.eq, hv]; exact decide_eq_decide.2 eq_comm]; cbv
   refine both (fun d => ?_) (fun d => ?_) <;> rw [d] <;> cbv
   ·rw [hQ1]; cbv
    rw [hQ]; cbv
    rw [← hr, hb', if_pos d]
   ·refine ih (suf, pre ++ [x], add .i64 i 1, some i) ⟨at_len (F.inc hi (by omega)) (by simp), by simp [hl'], ?_⟩ (by simp)
    rw [hb', if_neg (by rw [d]; decide), hinc]
theorem ok302 (l : List Int) (n : Int) (hl : l.length ≤ 1099511627776) {f0 : Fl} (h0 : inFl f0 = true) : fix Tb md 302 [R (row fI l) f0, I n] = some ⟨[B (hasI l n)], [], none⟩ := by
 rw [← hasI_ix]
 obtain ⟨v, hv⟩ := nm (ixOf (fun y => decide (y = n)) l 0)
 rw [← hv]
 generalize hr : (⟨_, [], none⟩ : Ret) = r
 obtain ⟨ea, hea⟩ := nm (row fI l)
 rw [← hea]
 refine fix_fn2 (fn := ir302) tb_302 rfl rfl (by decide) rfl ?_; intro Q hQ; simp only [shutArgs, shutS, List.map_cons, List.map_nil, ir302, shut_in h0, List.head?_nil, reduceCtorEq, if_false, sExt, sHello, sAnswer, sEdit, sDeal, sBox, sDialed, sKnown]
 intro add sub mul arith eq ne lt le gt ge neg conv mn mx not beq len at' ln bd cut app allS isNil mks set o hP F ho
 have c1 : o 354 [R ea (.sp 0 0), I n] = some ⟨[I v], [], none⟩ := by rw [ho, hv, hea]; exact ok354 _ _ hl rfl
 cbv
 rw [c1]; cbv
 rw [hQ]; cbv
 rw [← hr, F.ge]
theorem ok287 (l b : List Int) (hl : l.length ≤ 1073741824) (hb' : b.length ≤ 1073741824) {f0 f1 : Fl} (h0 : inFl f0 = true) (h1 : inFl f1 = true) : fix Tb md 287 [R (row fI l) f0, R (row fI b) f1] = some ⟨[R (row fI (sel (notIn b) idI l)) (.ow false)], [], none⟩ := by
 obtain ⟨et, het⟩ := nm (row fI (sel (notIn b) idI l))
 rw [← het]
 generalize hr : (⟨_, [], none⟩ : Ret) = r
 obtain ⟨ea, hea⟩ := nm (row fI l)
 obtain ⟨eb, heb⟩ := nm (row fI b)
 rw [← hea, ← heb]
 refine fix_fn2 (fn := ir287) tb_287 rfl rfl (by decide) rfl ?_; intro Q hQ; simp only [shutArgs, shutS, List.map_cons, List.map_nil, ir287, shut_in h0, shut_in h1, List.head?_nil, reduceCtorEq, if_false, sExt, sHello, sAnswer, sEdit, sDeal, sBox, sDialed, sKnown]
 intro add sub mul arith eq ne lt le gt ge neg conv mn mx not beq len at' ln bd cut app allS isNil mks set o hP F ho
 have la := F.len_at hea
 cbv
 refine loop_ind2 hP (σ := List Int × List Int × List (List V) × Int × Option (Int)) (fun s => match s.2.2.2.2 with | none => [(0, R ea .sh), (1, R eb .sh), (4, R [] .nl), (5, R s.2.2.1 (.ow false)), (9, R ea .sh), (10, I (len ea)), (11, I s.2.2.2.1)] | some j => [(0, R ea .sh), (1, R eb .sh), (4, R [] .nl), (5, R s.2.2.1 (.ow false)), (7, I j), (9, R ea .sh), (10, I (len ea)), (11, I s.2.2.2.1)]) (fun s => At s.2.2.2.1 s.2.1.length ∧ l = s.2.1 ++ s.1 ∧ s.2.2.1 = row fI (sel (notIn b) idI s.2.1)) (fun s => s.1.length) (l, [], [], 0, none) rfl ⟨rfl, rfl, rfl⟩ ?_
 intro c1 Q1 hc1 hQ1
 rintro ⟨suf, pre, eo, i, j⟩ ⟨hi, hl', hb⟩ ih
 simp only at hi hl' hb ih
 rcases j with _ | _
 all_goals
  cbv
  cases suf with
  | nil =>
   rw [F.lt_f hi la (by simp [hl'])]; cbv
   rw [hQ1]; cbv
   rw [hQ]; cbv
   rw [← hr, het, hb, hl', List.append_nil]
  | cons x suf =>
   obtain ⟨ix, hix⟩ := nm (pre.length * 1)
   have hpre : pre.length ≤ 1073741824 := by rw [hl'] at hl; simp at hl; omega
   have hs : (sel (notIn b) idI pre).length ≤ pre.length := sel_len
   have hi' : At (add .i64 i 1) (pre ++ [x]).length := at_len (F.inc hi (by omega)) (by simp)
   have hl2 : l = (pre ++ [x]) ++ suf := by rw [hl']; simp
   have hmem : x ∈ l := by rw [hl']; simp
   have p0 : at' 1 ea i = some (ix, [.int .i64 x]) := by rw [hix]; exact F.get hi hea hl' (fun _ => rfl) (by decide)
   obtain ⟨v, hv⟩ := nm (hasI b x)
   have hP : notIn b x = !v := by rw [hv]; rfl
   have c2 : o 302 [R eb (.sp 0 0), I x] = some ⟨[B v], [], none⟩ := by rw [ho, hv, heb]; exact ok302 _ _ (by omega) rfl
   rw [F.lt_t hi la (by simp [hl'])]; cbv
   rw [p0]; cbv
   rw [c2]; cbv
   refine both (fun d => ?_) (fun d => ?_) <;> rw [d] <;> cbv
   ·rw [show allS [[.int .i64 x]] = true by rw [F.allS]; rfl]; cbv
    obtain ⟨eo', heo'⟩ := nm (row fI (sel (notIn b) idI pre ++ [idI x]))
    rw [show app 1 eo [[.int .i64 x]] = some eo' by rw [heo']; exact F.push hb (fun _ => rfl) rfl (by omega)]; cbv
    refine ih (suf, pre ++ [x], eo', add .i64 i 1, some x) ⟨hi', hl2, by simp only; rw [heo', sel_t (by rw [hP, F.not_t d]; rfl)]⟩ (by simp)
   ·refine ih (suf, pre ++ [x], eo, add .i64 i 1, some x) ⟨hi', hl2, by simp only; rw [hb, sel_f (by rw [hP, F.not_f d]; rfl)]⟩ (by simp)
def inB (n : Int) : Bool := inR n 0 255
def thou (n : Int) : Int := 1000 + n
def tags (l : List Ext) : List Int := sel yesE Ext.tag l
theorem tags_map (l : List Ext) : tags l = l.map Ext.tag := by unfold tags sel; rw [show l.filter yesE = l from List.filter_eq_self.2 (fun _ _ => rfl)]
theorem hasI_tags (l : List Ext) (t : Int) : hasI (tags l) t = l.any (tagP t) := by
 rw [tags_map]; unfold hasI; rw [List.any_map]; rfl
theorem extOf_neg (l : List Ext) (t : Int) : decide (extOf l t < 0) = !hasI (tags l) t := by
 have h1 : decide (0 ≤ extOf l t) = l.any (tagP t) := ixOf_ge (tagP t) l 0 (by decide)
 rw [hasI_tags, ← h1]
 by_cases q : extOf l t < 0
 ·simp [q]
 ·simp [q]; omega
theorem givenV_eq (h x : Hello) : givenV h x = sel (notIn x.versions) idI h.versions ++ sel inB thou (sel (notIn (tags x.exts)) idI (tags h.exts)) := by
 unfold givenV
 congr 1
 rw [sel_idI, tags_map h.exts]
 induction h.exts with
 | nil => rfl
 | cons y l ih =>
  rw [show sel (gaP x) gaF (y :: l) = (if gaP x y = true then [gaF y] else []) ++ sel (gaP x) gaF l by unfold sel; rw [List.filter_cons]; split <;> simp, ih]
  rw [List.map_cons, List.filter_cons]
  have hg : gaP x y = (notIn (tags x.exts) y.tag && inB y.tag) := by unfold gaP notIn inB; rw [extOf_neg]
  rw [hg]
  cases h1 : notIn (tags x.exts) y.tag with
  | false => simp
  | true =>
   rw [if_pos rfl]
   unfold sel
   rw [List.filter_cons]
   cases h2 : inB y.tag with
   | false => simp
   | true => simp [gaF, thou]
theorem ok150 (h x : Hello) (a1 : h.versions.length ≤ 1048576) (a2 : x.versions.length ≤ 1048576) (a3 : h.exts.length ≤ 1048576) (a4 : x.exts.length ≤ 1048576) {f0 f1 f2 f3 : Fl} (q0 : inFl f0 = true) (q1 : inFl f1 = true) (q2 : inFl f2 = true) (q3 : inFl f3 = true) : fix Tb md 150 [sHello (row fI h.versions) (row fExt h.exts) f0 f1, sHello (row fI x.versions) (row fExt x.exts) f2 f3] = some ⟨[R (row fI (givenV h x)) (.ow false)], [], none⟩ := by
 obtain ⟨et, het⟩ := nm (row fI (givenV h x))
 rw [← het]
 generalize hr : (⟨_, [], none⟩ : Ret) = r
 obtain ⟨dv, hdv⟩ := nm (row fI h.versions)
 obtain ⟨dx, hdx⟩ := nm (row fExt h.exts)
 obtain ⟨ev, hev⟩ := nm (row fI x.versions)
 obtain ⟨ex, hex⟩ := nm (row fExt x.exts)
 rw [← hdv, ← hdx, ← hev, ← hex]
 obtain ⟨W, hW⟩ := nm (sel (notIn x.versions) idI h.versions)
 obtain ⟨Z, hZ⟩ := nm (sel (notIn (tags x.exts)) idI (tags h.exts))
 obtain ⟨ew, hew⟩ := nm (row fI W)
 obtain ⟨ez, hez⟩ := nm (row fI Z)
 obtain ⟨th, hth⟩ := nm (row fI (tags h.exts))
 obtain ⟨tx, htx⟩ := nm (row fI (tags x.exts))
 have hWl : W.length ≤ 1048576 := by rw [hW]; exact Nat.le_trans sel_len a1
 have htl : (tags h.exts).length ≤ 1048576 := Nat.le_trans sel_len a3
 have htx' : (tags x.exts).length ≤ 1048576 := Nat.le_trans sel_len a4
 have hZl : Z.length ≤ 1048576 := by rw [hZ]; exact Nat.le_trans sel_len htl
 refine fix_fn2 (fn := ir150) tb_150 rfl rfl (by decide) rfl ?_; intro Q hQ; simp only [shutArgs, shutS, List.map_cons, List.map_nil, ir150, shut_in q0, shut_in q1, shut_in q2, shut_in q3, List.head?_nil, reduceCtorEq, if_false, sExt, sHello, sAnswer, sEdit, sDeal, sBox, sDialed, sKnown]
 intro add sub mul arith eq ne lt le gt ge neg conv mn mx not beq len at' ln bd cut app allS isNil mks set o hP F ho
 have lz := F.len_at hez
 have c1 : o 287 [R dv (.sp 0 0), R ev (.sp 1 0)] = some ⟨[R ew (.ow false)], [], none⟩ := by rw [ho, hew, hW, hdv, hev]; exact ok287 _ _ (by omega) (by omega) rfl rfl
 have c2 : o 179 [R dx (.sp 0 0)] = some ⟨[R th (.ow false)], [], none⟩ := by rw [ho, hth, hdx]; exact ok179 _ (by omega) rfl
 have c3 : o 179 [R ex (.sp 0 0)] = some ⟨[R tx (.ow false)], [], none⟩ := by rw [ho, htx, hex]; exact ok179 _ (by omega) rfl
 have c4 : o 287 [R th (.sp 0 0), R tx (.sp 1 0)] = some ⟨[R ez (.ow false)], [], none⟩ := by rw [ho, hez, hZ, hth, htx]; exact ok287 _ _ (by omega) (by omega) rfl rfl
 cbv
 rw [c1]; cbv
 rw [c2]; cbv
 rw [c3]; cbv
 rw [c4]; cbv
 refine loop_ind2 hP (σ := List Int × List Int × List (List V) × Int × Option Int) (fun s => match s.2.2.2.2 with
  | none => [(0, sHello dv dx .sh .sh), (1, sHello ev ex .sh .sh), (2, ⟨.ptr 36 0, []⟩), (3, ⟨.ptr 37 0, []⟩), (4, R [] .nl), (5, R s.2.2.1 (.ow false)), (19, R ez (.ow false)), (20, I (len ez)), (21, I s.2.2.2.1), (36, ⟨.box (), [⟨.row () dv, .sh⟩, ⟨.row () dx, .sh⟩]⟩), (37, ⟨.box (), [⟨.row () ev, .sh⟩, ⟨.row () ex, .sh⟩]⟩)]
  | some j => [(0, sHello dv dx .sh .sh), (1, sHello ev ex .sh .sh), (2, ⟨.ptr 36 0, []⟩), (3, ⟨.ptr 37 0, []⟩), (4, R [] .nl), (5, R s.2.2.1 (.ow false)), (7, I j), (19, R ez (.ow false)), (20, I (len ez)), (21, I s.2.2.2.1), (36, ⟨.box (), [⟨.row () dv, .sh⟩, ⟨.row () dx, .sh⟩]⟩), (37, ⟨.box (), [⟨.row () ev, .sh⟩, ⟨.row () ex, .sh⟩]⟩)]) (fun s => At s.2.2.2.1 s.2.1.length ∧ Z = s.2.1 ++ s.1 ∧ s.2.2.1 = row fI (W ++ sel inB thou s.2.1)) (fun s => s.1.length) (Z, [], ew, 0, none) rfl ⟨rfl, rfl, by rw [hew]; simp [sel]⟩ ?_
 intro c1 Q1 hc1 hQ1
 rintro ⟨suf, pre, eo, i, j⟩ ⟨hi, hl', hb⟩ ih
 simp only at hi hl' hb ih
 rcases j with _ | _
 all_goals
  cbv
  cases suf with
  | nil =>
   rw [F.lt_f hi lz (by simp [hl'])]; cbv
   rw [hQ1]; cbv
   rw [hQ]; cbv
   rw [← hr, het, hb, givenV_eq, ← hZ, hl', List.append_nil, hW]
  | cons y suf =>
   obtain ⟨ix, hix⟩ := nm (pre.length * 1)
   have hpre : pre.length ≤ 1048576 := by rw [hl'] at hZl; simp at hZl; omega
   have hs : (sel inB thou pre).length ≤ pre.length := sel_len
   have hi' : At (add .i64 i 1) (pre ++ [y]).length := at_len (F.inc hi (by omega)) (by simp)
   have hl2 : Z = (pre ++ [y]) ++ suf := by rw [hl']; simp
   have p0 : at' 1 ez i = some (ix, [.int .i64 y]) := by rw [hix]; exact F.get hi hez hl' (fun _ => rfl) (by decide)
   obtain ⟨b2, hb2⟩ := nm (inB y)
   have c5 : o 232 [I y, I 0, I 255] = some ⟨[B b2], [], none⟩ := by rw [ho, hb2]; exact ok232 ..
   obtain ⟨eo', heo'⟩ := nm (row fI (W ++ sel inB thou pre ++ [thou y]))
   have q1 : b2 = true → app 1 eo [[.int .i64 (add .i64 1000 y)]] = some eo' := by
    intro q
    rw [hb2] at q
    simp [inB, inR] at q
    rw [show add .i64 1000 y = thou y by rw [F.add, wrap64 (by omega) (by omega)]; rfl, heo']
    exact F.push hb (fun _ => rfl) rfl (by rw [List.length_append]; omega)
   have q2 : allS [[.int .i64 (add .i64 1000 y)]] = true := by rw [F.allS]; rfl
   rw [F.lt_t hi lz (by simp [hl'])]; cbv
   rw [p0]; cbv
   rw [c5]; cbv
   refine both (fun d2 => ?_) (fun d2 => ?_) <;> rw [d2] <;> cbv
   ·rw [q2]; cbv
    rw [q1 d2]; cbv
    refine ih (suf, pre ++ [y], eo', add .i64 i 1, some y) ⟨hi', hl2, by simp only; rw [heo', sel_t (by rw [← hb2, d2])]; simp⟩ (by simp)
   ·refine ih (suf, pre ++ [y], eo, add .i64 i 1, some y) ⟨hi', hl2, by simp only; rw [hb, sel_f (by rw [← hb2, d2])]⟩ (by simp)
def wDeal (x : Deal) (k : Int) : Deal := ⟨x.ok, x.version, mI x.tags k⟩
def nDeal (x : Deal) : Nat := x.tags.length
theorem nDeal_mid {x : Deal} (w : x.Mid) : nDeal x ≤ 2305843016730000000 := by unfold Deal.Mid at w; have h0 := w; unfold nDeal; omega
theorem nDeal_small {x : Deal} (w : x.Small) : nDeal x ≤ 2199100000000 := by unfold Deal.Small at w; have h0 := w; unfold nDeal; omega
theorem ok1087 (x : Deal) (k : Int) (hk : Lim k (nDeal x)) (w : x.Mid) : fix Tb md 1087 [sDeal x.ok x.version (row fI x.tags) (.mp 0), I k] = some ⟨[I (k + (nDeal x : Int))], [.row () (row fI (wDeal x k).tags)], none⟩ := by
 have hn : nDeal x = x.tags.length := rfl
 unfold Deal.Mid at w
 have a0 : AtK k k 0 := AtK.zero
 obtain ⟨z1, hz1⟩ := nm (k + (x.tags.length : Int))
 have a1 : AtK z1 k (0 + x.tags.length) := hz1 ▸ a0.plus
 have m1 : Lim k (x.tags.length) := a0.lim hk (by omega)
 have n1 : 0 ≤ z1 := by have := m1.nn; omega
 rw [show k + (nDeal x : Int) = z1 by rw [a1.same, hn]; simp]
 have x0 : (wDeal x k).tags = mI x.tags k := by simp only [wDeal, hz1]
 rw [x0]
 obtain ⟨g0, hg0⟩ := nm (row fI (mI x.tags k))
 obtain ⟨e0, he0⟩ := nm (row fI x.tags)
 rw [← hg0, ← he0]
 refine fix_fn (fn := ir1087) tb_1087 rfl rfl (by decide) rfl ?_
 generalize hr : (⟨_, [_], none⟩ : Ret) = r
 intro add sub mul arith eq ne lt le gt ge neg conv mn mx not beq len at' ln bd cut app allS isNil mks set o hP F ho
 have c1 : o 1080 [R e0 (.mp 0), I k] = some ⟨[I z1], [.row () g0], none⟩ := by rw [ho, hz1, hg0, he0]; exact ok1080 _ _ m1 (Nat.le_trans (w) (by decide))
 cbv
 rw [c1]; cbv
 exact congrArg some hr
theorem ok1087_n (x : Deal) (k : Int) (hk : Lim k (nDeal x)) (w : x.Mid) (y0 : x.tags = []) : fix Tb md 1087 [sDeal x.ok x.version (row fI x.tags) .nl, I k] = some ⟨[I (k + (nDeal x : Int))], [], none⟩ := by
 have hn : nDeal x = x.tags.length := rfl
 unfold Deal.Mid at w
 have a0 : AtK k k 0 := AtK.zero
 obtain ⟨z1, hz1⟩ := nm (k + (x.tags.length : Int))
 have a1 : AtK z1 k (0 + x.tags.length) := hz1 ▸ a0.plus
 have m1 : Lim k (x.tags.length) := a0.lim hk (by omega)
 have n1 : 0 ≤ z1 := by have := m1.nn; omega
 rw [show k + (nDeal x : Int) = z1 by rw [a1.same, hn]; simp]
 have x0 : (wDeal x k).tags = mI x.tags k := by simp only [wDeal, hz1]
 have e0 : row fI x.tags = [] := by rw [y0]; rfl
 rw [e0]
 refine fix_fn (fn := ir1087) tb_1087 rfl rfl (by decide) rfl ?_
 generalize hr : (⟨_, [], none⟩ : Ret) = r
 intro add sub mul arith eq ne lt le gt ge neg conv mn mx not beq len at' ln bd cut app allS isNil mks set o hP F ho
 have c1 : o 1080 [R [] .nl, I k] = some ⟨[I z1], [], none⟩ := by rw [ho, show z1 = k by rw [hz1, y0]; simp]; exact ok1080n _
 cbv
 rw [c1]; cbv
 exact congrArg some hr
def mBox (x : Box) (k : Int) : Box := ⟨k, mI x.drops (k + 1), mI x.strips ((k + 1) + (x.drops.length : Int)), decide (Int.tmod (((k + 1) + (x.drops.length : Int)) + (x.strips.length : Int)) 3 = 0)⟩
def cBox (x : Box) : Nat := 1 + x.drops.length + x.strips.length + 1
def mBoxS : List Box → Int → List Box
 | [], _ => []
 | x :: l, k => mBox x k :: mBoxS l (k + (cBox x : Int))
def cBoxS (l : List Box) : Nat := (l.map cBox).sum
theorem mBoxS_len : ∀ (l : List Box) (k : Int), (mBoxS l k).length = l.length
 | [], _ => rfl
 | _ :: l, k => by simp [mBoxS, mBoxS_len l _]
theorem mBoxS_app : ∀ (a b : List Box) (k x : Int), AtK x k (cBoxS a) → mBoxS (a ++ b) k = mBoxS a k ++ mBoxS b x
 | [], b, k, x, h => by simp [AtK, cBoxS] at h; subst h; simp [mBoxS]
 | y :: a, b, k, x, h => by
  simp only [List.cons_append, mBoxS]
  rw [mBoxS_app a b (k + (cBox y : Int)) x (by unfold AtK at *; simp [cBoxS] at h ⊢; omega)]
theorem cBox_mid {x : Box} (w : x.Mid) : cBox x ≤ 2147483650 := by unfold Box.Mid at w; unfold cBox; omega
theorem cBox_small {x : Box} (w : x.Small) : cBox x ≤ 2097154 := by unfold Box.Small at w; unfold cBox; omega
theorem cBoxS_mid {l : List Box} (w : l.length ≤ 1073741824 ∧ ∀ y ∈ l, y.Mid) : cBoxS l ≤ 2305843011361177600 :=
 Nat.le_trans (sum_le fun y hy => cBox_mid (w.2 y hy)) (Nat.mul_le_mul_right _ w.1)
theorem cBoxS_small {l : List Box} (w : l.length ≤ 1048576 ∧ ∀ y ∈ l, y.Small) : cBoxS l ≤ 2199025352704 :=
 Nat.le_trans (sum_le fun y hy => cBox_small (w.2 y hy)) (Nat.mul_le_mul_right _ w.1)
set_option maxHeartbeats 2000000 in
theorem ok1172 (l : List Box) (k : Int) (hk : Lim k (cBoxS l)) (hl : l.length ≤ 1099511627776) (w0 : ∀ y ∈ l, y.drops.length ≤ 1099511627776) (w1 : ∀ y ∈ l, y.strips.length ≤ 1099511627776) : fix Tb md 1172 [R (row fBox l) (.mp 0), I k] = some ⟨[I (k + (cBoxS l : Int))], [.row () (row fBox (mBoxS l k))], none⟩ := by
 obtain ⟨t, ht⟩ := nm (k + (cBoxS l : Int))
 obtain ⟨et, het⟩ := nm (row fBox (mBoxS l k))
 have hT : AtK t k (cBoxS l) := ht
 rw [← ht, ← het]
 clear ht
 refine fix_fn (fn := ir1172) tb_1172 rfl rfl (by decide) rfl ?_
 generalize hr : (⟨_, [_], none⟩ : Ret) = r
 obtain ⟨ea, hea⟩ := nm (row fBox l)
 rw [← hea]
 intro add sub mul arith eq ne lt le gt ge neg conv mn mx not beq len at' ln bd cut app allS isNil mks set o hP F ho
 cbv
 refine loop_ind hP (σ := List Box × List Box × List (List V) × Int × Int) (fun s => [(0, R s.2.2.1 (.mp 0)), (1, I s.2.2.2.1), (4, I 0), (5, I s.2.2.2.2)])
  (fun s => At s.2.2.2.2 s.2.1.length ∧ AtK s.2.2.2.1 k (cBoxS s.2.1) ∧ l = s.2.1 ++ s.1 ∧ s.2.2.1 = row fBox (mBoxS s.2.1 k ++ s.1)) (fun s => s.1.length) (l, [], ea, k, 0) rfl ⟨rfl, AtK.zero, rfl, by simpa [mBoxS] using hea⟩ ?_
 rintro ⟨suf, pre, eo, z0, i⟩ ⟨hi, a0, hl', heo⟩ ih
 simp only at hi a0 hl' heo ih
 have lo := F.len_at heo
 cbv
 cases suf with
 | nil =>
  rw [F.lt_f hi lo (by simp [mBoxS_len])]; cbv
  rw [← hr, show z0 = t by rw [a0.same, hT.same, hl']; simp, heo, het, hl']; simp
 | cons x suf =>
  have hl3 : pre.length + 1 ≤ l.length := by rw [hl']; simp
  have hc : cBoxS l = cBoxS pre + (cBox x + cBoxS suf) := by rw [hl']; simp [cBoxS]
  have hcx : cBox x = 1 + x.drops.length + x.strips.length + 1 := rfl
  obtain ⟨z1, hz1⟩ := nm (z0 + 1)
  have a1 : AtK z1 k (cBoxS pre + 1) := hz1 ▸ a0.one
  have s1 : add .i64 z0 1 = z1 := by rw [F.add, a0.inc hk (by omega), hz1]
  obtain ⟨z2, hz2⟩ := nm (z1 + (x.drops.length : Int))
  have a2 : AtK z2 k (cBoxS pre + 1 + x.drops.length) := hz2 ▸ a1.plus
  have m2 : Lim z1 x.drops.length := a1.lim hk (by omega)
  have n2 : 0 ≤ z2 := by have := m2.nn; omega
  obtain ⟨z3, hz3⟩ := nm (z2 + (x.strips.length : Int))
  have a3 : AtK z3 k (cBoxS pre + 1 + x.drops.length + x.strips.length) := hz3 ▸ a2.plus
  have m3 : Lim z2 x.strips.length := a2.lim hk (by omega)
  have n3 : 0 ≤ z3 := by have := m3.nn; omega
  obtain ⟨z4, hz4⟩ := nm (z3 + 1)
  have a4 : AtK z4 k (cBoxS pre + 1 + x.drops.length + x.strips.length + 1) := hz4 ▸ a3.one
  have s4 : add .i64 z3 1 = z4 := by rw [F.add, a3.inc hk (by omega), hz4]
  have hmx : mBox x z0 = (⟨z0, (mI x.drops z1), (mI x.strips z2), (decide (Int.tmod z3 3 = 0))⟩ : Box) := by simp only [mBox, hz1, hz2, hz3, hz4]
  have hzn : z0 + (cBox x : Int) = z4 := by rw [hcx, a4.same, a0.same]; omega
  have y0 : x.drops.length ≤ 1099511627776 := w0 x (by rw [hl']; simp)
  have y1 : x.strips.length ≤ 1099511627776 := w1 x (by rw [hl']; simp)
  obtain ⟨e1, he1⟩ := nm (row fI x.drops)
  obtain ⟨g1, hg1⟩ := nm (row fI (mI x.drops z1))
  obtain ⟨e2, he2⟩ := nm (row fI x.strips)
  obtain ⟨g2, hg2⟩ := nm (row fI (mI x.strips z2))
  obtain ⟨w, hw⟩ := nm (Int.tmod z3 3)
  obtain ⟨b3, hb3⟩ := nm (decide (Int.tmod z3 3 = 0))
  rw [F.lt_t hi lo (by simp [mBoxS_len])]; cbv
  obtain ⟨ix, hix⟩ := nm (pre.length * 4)
  obtain ⟨eo1, heo1⟩ := nm (row fBox (mBoxS pre k ++ (⟨z0, x.drops, x.strips, x.lists⟩ : Box) :: suf))
  obtain ⟨eo2, heo2⟩ := nm (row fBox (mBoxS pre k ++ (⟨z0, (mI x.drops z1), x.strips, x.lists⟩ : Box) :: suf))
  obtain ⟨eo3, heo3⟩ := nm (row fBox (mBoxS pre k ++ (⟨z0, (mI x.drops z1), (mI x.strips z2), x.lists⟩ : Box) :: suf))
  obtain ⟨eo4, heo4⟩ := nm (row fBox (mBoxS pre k ++ (⟨z0, (mI x.drops z1), (mI x.strips z2), (decide (Int.tmod z3 3 = 0))⟩ : Box) :: suf))
  rw [show at' 4 eo i = some (ix, [.int .i64 x.limit, .row () e1, .row () e2, .bool x.lists]) by simp only [hix, he1, he2, hg1, hg2, hb3]; have h := F.get (f := fBox) (k := 4) (show At i (mBoxS pre k).length by rw [mBoxS_len]; exact hi) heo rfl (fun _ => rfl) (by decide); rw [mBoxS_len] at h; exact h]; cbv
  have q0 : setFlat eo (ix + 0) [.int .i64 z0] = some eo1 := by simp only [heo, heo1, he1, he2, hg1, hg2, hb3]; exact set_fld (k := 4) (fun _ => rfl) (by decide) (by simp [fBox]) (by rw [hix, mBoxS_len])
  first | rw [show set eo (ix + 0) [.int .i64 z0] = some eo1 by rw [F.set]; exact q0] | rw [show set eo (Nat.add ix 0) [.int .i64 z0] = some eo1 by rw [F.set]; exact q0] | rw [show set eo ix [.int .i64 z0] = some eo1 by rw [F.set]; exact q0] | trace_state
  cbv
  rw [s1]
  rw [show at' 4 eo1 i = some (ix, [.int .i64 z0, .row () e1, .row () e2, .bool x.lists]) by simp only [hix, he1, he2, hg1, hg2, hb3]; have h := F.get (f := fBox) (k := 4) (show At i (mBoxS pre k).length by rw [mBoxS_len]; exact hi) heo1 rfl (fun _ => rfl) (by decide); rw [mBoxS_len] at h; exact h]; cbv
  have c1 : o 1080 [R e1 (.mp 0), I z1] = some ⟨[I z2], [.row () g1], none⟩ := by rw [ho, he1, hg1, hz2]; exact ok1080 _ _ m2 y0
  rw [c1]; cbv
  have q1 : setFlat eo1 (ix + 1) [.row () g1] = some eo2 := by simp only [heo1, heo2, he1, he2, hg1, hg2, hb3]; exact set_fld (k := 4) (fun _ => rfl) (by decide) (by simp [fBox]) (by rw [hix, mBoxS_len])
  first | rw [show set eo1 (ix + 1) [.row () g1] = some eo2 by rw [F.set]; exact q1] | rw [show set eo1 (Nat.add ix 1) [.row () g1] = some eo2 by rw [F.set]; exact q1] | rw [show set eo1 ix [.row () g1] = some eo2 by rw [F.set]; exact q1] | trace_state
  cbv
  rw [show at' 4 eo2 i = some (ix, [.int .i64 z0, .row () g1, .row () e2, .bool x.lists]) by simp only [hix, he1, he2, hg1, hg2, hb3]; have h := F.get (f := fBox) (k := 4) (show At i (mBoxS pre k).length by rw [mBoxS_len]; exact hi) heo2 rfl (fun _ => rfl) (by decide); rw [mBoxS_len] at h; exact h]; cbv
  have c2 : o 1080 [R e2 (.mp 0), I z2] = some ⟨[I z3], [.row () g2], none⟩ := by rw [ho, he2, hg2, hz3]; exact ok1080 _ _ m3 y1
  rw [c2]; cbv
  have q2 : setFlat eo2 (ix + 2) [.row () g2] = some eo3 := by simp only [heo2, heo3, he1, he2, hg1, hg2, hb3]; exact set_fld (k := 4) (fun _ => rfl) (by decide) (by simp [fBox]) (by rw [hix, mBoxS_len])
  first | rw [show set eo2 (ix + 2) [.row () g2] = some eo3 by rw [F.set]; exact q2] | rw [show set eo2 (Nat.add ix 2) [.row () g2] = some eo3 by rw [F.set]; exact q2] | rw [show set eo2 ix [.row () g2] = some eo3 by rw [F.set]; exact q2] | trace_state
  cbv
  rw [show arith .rem .i64 z3 3 = some (.int .i64 w) by rw [F.arith, hw]; rfl]; cbv
  rw [show at' 4 eo3 i = some (ix, [.int .i64 z0, .row () g1, .row () g2, .bool x.lists]) by simp only [hix, he1, he2, hg1, hg2, hb3]; have h := F.get (f := fBox) (k := 4) (show At i (mBoxS pre k).length by rw [mBoxS_len]; exact hi) heo3 rfl (fun _ => rfl) (by decide); rw [mBoxS_len] at h; exact h]; cbv
  rw [show eq w 0 = b3 by rw [F.eq, hb3, hw]]
  have q3 : setFlat eo3 (ix + 3) [.bool b3] = some eo4 := by simp only [heo3, heo4, he1, he2, hg1, hg2, hb3]; exact set_fld (k := 4) (fun _ => rfl) (by decide) (by simp [fBox]) (by rw [hix, mBoxS_len])
  first | rw [show set eo3 (ix + 3) [.bool b3] = some eo4 by rw [F.set]; exact q3] | rw [show set eo3 (Nat.add ix 3) [.bool b3] = some eo4 by rw [F.set]; exact q3] | rw [show set eo3 ix [.bool b3] = some eo4 by rw [F.set]; exact q3] | trace_state
  cbv
  rw [s4]
  refine ih (suf, pre ++ [x], eo4, z4, add .i64 i 1) ⟨at_len (F.inc hi (by omega)) (by simp), a4.eq (by simp [cBoxS, cBox] <;> omega), by simp [hl'], ?_⟩ (by simp)
  simp only
  rw [heo4, mBoxS_app pre [x] k z0 a0, ← hmx]; simp [mBoxS]
theorem ok1172n (k : Int) : fix Tb md 1172 [R [] .nl, I k] = some ⟨[I k], [], none⟩ := by
 refine fix_fn (fn := ir1172) tb_1172 rfl rfl (by decide) rfl ?_
 generalize hr : (⟨_, [], none⟩ : Ret) = r
 intro add sub mul arith eq ne lt le gt ge neg conv mn mx not beq len at' ln bd cut app allS isNil mks set o hP F ho
 have la : At (len []) 0 := F.len_at (f := fBox) (l := []) rfl
 have h0 : lt 0 (len []) = false := F.lt_f at0 la (Nat.le_refl 0)
 cbv
 refine loop_ind hP (σ := Unit) (fun _ => [(0, R [] .nl), (1, I k), (4, I 0), (5, I 0)]) (fun _ => True) (fun _ => 0) () rfl trivial ?_
 rintro ⟨⟩ _ ih
 clear ih
 cbv
 rw [h0]; cbv
 exact congrArg some hr
def verGo : List Int → List Int → Bool
 | _, [] => true
 | pre, x :: suf => inR x 1 9 && (match pre.getLast? with | none => true | some y => !decide (x ≤ y)) && verGo (pre ++ [x]) suf
def areVer (l : List Int) : Bool := verGo [] l && decide (0 < l.length)
theorem ok257 (l : List Int) (hl : l.length ≤ 1099511627776) {f0 : Fl} (h0 : inFl f0 = true) : fix Tb md 257 [R (row fI l) f0] = some ⟨[B (areVer l)], [], none⟩ := by
 obtain ⟨T, hT⟩ := nm (verGo [] l)
 rw [show areVer l = (T && decide (0 < l.length)) by rw [hT]; rfl]
 generalize hr : (⟨_, [], none⟩ : Ret) = r
 obtain ⟨ea, hea⟩ := nm (row fI l)
 rw [← hea]
 refine fix_fn2 (fn := ir257) tb_257 rfl rfl (by decide) rfl ?_; intro Q hQ; simp only [shutArgs, shutS, List.map_cons, List.map_nil, ir257, shut_in h0, List.head?_nil, reduceCtorEq, if_false, sExt, sHello, sAnswer, sEdit, sDeal, sBox, sDialed, sKnown]
 intro add sub mul arith eq ne lt le gt ge neg conv mn mx not beq len at' ln bd cut app allS isNil mks set o hP F ho
 have la := F.len_at hea
 have h6 : gt (len ea) 0 = decide (0 < l.length) := F.gt_n la rfl
 cbv
 refine loop_ind2 hP (σ := List Int × List Int × Int) (fun s => [(0, R ea .sh), (2, B false), (3, I s.2.2)]) (fun s => At s.2.2 s.2.1.length ∧ l = s.2.1 ++ s.1 ∧ verGo s.2.1 s.1 = T) (fun s => s.1.length) (l, [], 0) rfl ⟨rfl, rfl, hT.symm⟩ ?_
 intro c1 Q1 hc1 hQ1
 rintro ⟨suf, pre, i⟩ ⟨hi, hl', hb⟩ ih
 simp only at hi hl' hb ih
 cbv
 cases suf with
 | nil =>
  rw [F.lt_f hi la (by simp [hl'])]; cbv
  rw [hQ1]; cbv
  rw [hQ]; cbv
  rw [h6, ← hr, ← hb]; rfl
 | cons x suf =>
  obtain ⟨ix, hix⟩ := nm (pre.length * 1)
  have hpre : pre.length ≤ 1099511627776 := by rw [hl'] at hl; simp at hl; omega
  have p0 : at' 1 ea i = some (ix, [.int .i64 x]) := by rw [hix]; exact F.get hi hea hl' (fun _ => rfl) (by decide)
  obtain ⟨b1, hb1⟩ := nm (inR x 1 9)
  have c1 : o 230 [I x, I 1, I 9] = some ⟨[B b1], [], none⟩ := by rw [ho, hb1]; exact ok230 ..
  have hv0 : verGo pre (x :: suf) = (b1 && (match pre.getLast? with | none => true | some y => !decide (x ≤ y)) && verGo (pre ++ [x]) suf) := by rw [hb1]; rfl
  rw [hv0] at hb
  have hi' : At (add .i64 i 1) (pre ++ [x]).length := at_len (F.inc hi (by omega)) (by simp)
  have hl2 : l = (pre ++ [x]) ++ suf := by rw [hl']; simp
  have hg0 : gt i 0 = decide (0 < pre.length) := F.gt_n hi rfl
  rw [F.lt_t hi la (by simp [hl'])]; cbv
  rw [p0]; cbv
  rw [c1]; cbv
  refine both (fun d1 => ?_) (fun d1 => ?_) <;> rw [d1] <;> cbv
  ·rw [hQ1]; cbv
   rw [hQ]; cbv
   rw [← hr, show T = false by rw [← hb, F.not_t d1]; rfl]; rfl
  rw [F.not_f d1, Bool.true_and] at hb
  rcases List.eq_nil_or_concat pre with hp | ⟨p', y, hp⟩
  ·rw [show gt i 0 = false by rw [hg0, hp]; rfl]; cbv
   refine ih (suf, pre ++ [x], add .i64 i 1) ⟨hi', hl2, ?_⟩ (by simp)
   simp only
   rw [← hb, hp]; rfl
  ·rw [show gt i 0 = true by rw [hg0, hp]; simp]; cbv
   obtain ⟨iy, hiy⟩ := nm (p'.length * 1)
   have hi2 : At (sub .i64 i 1) p'.length := by unfold At at hi ⊢; rw [hp] at hi; simp at hi; rw [F.sub, hi, wrap64 (by omega) (by rw [hp] at hpre; simp at hpre; omega)]; omega
   rw [show at' 1 ea (sub .i64 i 1) = some (iy, [.int .i64 y]) by rw [hiy]; exact F.get hi2 hea (show l = p' ++ y :: (x :: suf) by rw [hl', hp]; simp) (fun _ => rfl) (by decide)]; cbv
   rw [p0]; cbv
   obtain ⟨u, hu⟩ := nm (decide (x ≤ y))
   rw [show ge y x = u by rw [F.ge, hu]]; cbv
   have hgl : pre.getLast? = some y := by rw [hp]; simp
   rw [hgl] at hb
   simp only at hb
   rw [← hu] at hb
   refine both (fun d3 => ?_) (fun d3 => ?_) <;> rw [d3] <;> cbv
   ·rw [hQ1]; cbv
    rw [hQ]; cbv
    rw [← hr, show T = false by rw [← hb, d3]; rfl]; rfl
   ·refine ih (suf, pre ++ [x], add .i64 i 1) ⟨hi', hl2, ?_⟩ (by simp)
    rw [← hb, d3]; simp
theorem ok231 (l : List Int) (hl : l.length ≤ 1099511627776) {f0 : Fl} (h0 : inFl f0 = true) : fix Tb md 231 [R (row fI l) f0] = some ⟨[B (bytes l)], [], none⟩ := by
 refine fix_fn (fn := ir231) tb_231 rfl rfl (by decide) rfl ?_; simp only [shutArgs, shutS, List.map_cons, List.map_nil, ir231, shut_in h0, List.head?_nil, reduceCtorEq, if_false, sExt, sHello, sAnswer, sEdit, sDeal, sBox, sDialed, sKnown]
 generalize hr : (⟨_, [], none⟩ : Ret) = r
 obtain ⟨ea, hea⟩ := nm (row fI l)
 rw [← hea]
 intro add sub mul arith eq ne lt le gt ge neg conv mn mx not beq len at' ln bd cut app allS isNil mks set o hP F ho
 have la := F.len_at hea
 cbv
 refine loop_ind hP (σ := List Int × List Int × Int) (fun s => [(0, R ea .sh), (2, B false), (3, I s.2.2)]) (fun s => At s.2.2 s.1.length ∧ l = s.1 ++ s.2.1 ∧ bytes s.1 = true) (fun s => s.2.1.length) ([], l, 0) rfl ⟨rfl, rfl, rfl⟩ ?_
 rintro ⟨pre, suf, i⟩ ⟨hi, hl', hb⟩ ih
 simp only at hi hl' hb ih
 cbv
 cases suf with
 | nil =>
  rw [F.lt_f hi la (by simp [hl'])]; cbv
  rw [← hr, hl']; simp [hb]
 | cons x suf =>
  rw [F.lt_t hi la (by simp [hl'])]; cbv
  obtain ⟨ix, hix⟩ := nm (pre.length * 1)
  rw [show at' 1 ea i = some (ix, [.int .i64 x]) by rw [hix]; exact F.get hi hea hl' (fun _ => rfl) (by decide)]; cbv
  obtain ⟨v, hv⟩ := nm (inR x 0 255)
  rw [show o 230 [I x, I 0, I 255] = some ⟨[B v], [], none⟩ by rw [ho, hv]; exact ok230 x 0 255]; cbv
  refine both (fun c => ?_) (fun c => ?_) <;> rw [c] <;> cbv
  ·rw [← hr, hl']
   rw [F.not] at c
   simp [bytes] at *
   simp_all
  ·rw [F.not] at c
   simp at c
   refine ih (pre ++ [x], suf, add .i64 i 1) ⟨at_len (F.inc hi (by simp [hl'] at hl; omega)) (by simp), by simp [hl'], ?_⟩ (by simp)
   simp [bytes] at *
   simp_all
def exOk : List Ext → List Ext → Bool
 | _, [] => true
 | pre, x :: suf => inR x.tag 0 255 && !decide (4 < x.body.length) && bytes x.body && !(pre.any (tagP x.tag)) && exOk (pre ++ [x]) suf
def areEx (l : List Ext) : Bool := exOk [] l && decide (l.length ≤ 6)
theorem ok271 (l : List Ext) (hl : l.length ≤ 1099511627776) (w : ∀ y ∈ l, y.body.length ≤ 1099511627776) {f0 : Fl} (h0 : inFl f0 = true) : fix Tb md 271 [R (row fExt l) f0] = some ⟨[B (areEx l)], [], none⟩ := by
 obtain ⟨T, hT⟩ := nm (exOk [] l)
 rw [show areEx l = (T && decide (l.length ≤ 6)) by rw [hT]; rfl]
 generalize hr : (⟨_, [], none⟩ : Ret) = r
 obtain ⟨ea, hea⟩ := nm (row fExt l)
 rw [← hea]
 refine fix_fn2 (fn := ir271) tb_271 rfl rfl (by decide) rfl ?_; intro Q hQ; simp only [shutArgs, shutS, List.map_cons, List.map_nil, ir271, shut_in h0, List.head?_nil, reduceCtorEq, if_false, sExt, sHello, sAnswer, sEdit, sDeal, sBox, sDialed, sKnown]
 intro add sub mul arith eq ne lt le gt ge neg conv mn mx not beq len at' ln bd cut app allS isNil mks set o hP F ho
 have la := F.len_at hea
 have h6 : le (len ea) 6 = decide (l.length ≤ 6) := F.le_n la rfl
 cbv
 refine loop_ind2 hP (σ := List Ext × List Ext × Int) (fun s => [(0, R ea .sh), (2, B false), (3, I s.2.2)]) (fun s => At s.2.2 s.2.1.length ∧ l = s.2.1 ++ s.1 ∧ exOk s.2.1 s.1 = T) (fun s => s.1.length) (l, [], 0) rfl ⟨rfl, rfl, hT.symm⟩ ?_
 intro c1 Q1 hc1 hQ1
 rintro ⟨suf, pre, i⟩ ⟨hi, hl', hb⟩ ih
 simp only at hi hl' hb ih
 cbv
 cases suf with
 | nil =>
  rw [F.lt_f hi la (by simp [hl'])]; cbv
  rw [hQ1]; cbv
  rw [hQ]; cbv
  rw [h6, ← hr, ← hb]; rfl
 | cons x suf =>
  obtain ⟨ix, hix⟩ := nm (pre.length * 2)
  obtain ⟨e1, he1⟩ := nm (row fI x.body)
  have l1 := F.len_at he1
  have hx := w x (by rw [hl']; simp)
  have p0 : at' 2 ea i = some (ix, [.int .i64 x.tag, .row () e1]) := by rw [hix, he1]; exact F.get hi hea hl' (fun _ => rfl) (by decide)
  obtain ⟨b1, hb1⟩ := nm (inR x.tag 0 255)
  obtain ⟨b2, hb2⟩ := nm (decide (4 < x.body.length))
  obtain ⟨b3, hb3⟩ := nm (bytes x.body)
  obtain ⟨b4, hb4⟩ := nm (pre.any (tagP x.tag))
  obtain ⟨v, hv⟩ := nm (extOf l x.tag)
  have g4 : gt (len e1) 4 = b2 := by rw [hb2]; exact F.gt_n l1 rfl
  have c1 : o 230 [I x.tag, I 0, I 255] = some ⟨[B b1], [], none⟩ := by rw [ho, hb1]; exact ok230 ..
  have c3 : o 231 [R e1 (.sp 0 0)] = some ⟨[B b3], [], none⟩ := by rw [ho, hb3, he1]; exact ok231 _ hx rfl
  have c4 : o 286 [R ea (.sp 0 0), I x.tag] = some ⟨[I v], [], none⟩ := by rw [ho, hv, hea]; exact ok286 _ _ hl rfl
  have g5 : lt v i = b4 := by rw [F.lt, hv, hb4, hl']; exact ixOf_lt (by simp [tagP]) hi
  have hT' : T = (b1 && !b2 && b3 && !b4 && exOk (pre ++ [x]) suf) := by rw [← hb, hb1, hb2, hb3, hb4]; rfl
  rw [F.lt_t hi la (by simp [hl'])]; cbv
  rw [p0]; cbv
  rw [c1]; cbv
  refine both (fun d1 => ?_) (fun d1 => ?_) <;> rw [d1] <;> cbv
  ·rw [hQ1]; cbv
   rw [hQ]; cbv
   rw [← hr, show T = false by rw [hT', F.not_t d1]; rfl]; rfl
  rw [p0]; cbv
  rw [g4]; cbv
  refine both (fun d2 => ?_) (fun d2 => ?_) <;> rw [d2] <;> cbv
  ·rw [hQ1]; cbv
   rw [hQ]; cbv
   rw [← hr, show T = false by rw [hT', d2]; simp]; rfl
  rw [p0]; cbv
  rw [c3]; cbv
  refine both (fun d3 => ?_) (fun d3 => ?_) <;> rw [d3] <;> cbv
  ·rw [hQ1]; cbv
   rw [hQ]; cbv
   rw [← hr, show T = false by rw [hT', F.not_t d3]; simp]; rfl
  rw [p0]; cbv
  rw [c4]; cbv
  rw [g5]; cbv
  refine both (fun d4 => ?_) (fun d4 => ?_) <;> rw [d4] <;> cbv
  ·rw [hQ1]; cbv
   rw [hQ]; cbv
   rw [← hr, show T = false by rw [hT', d4]; simp]; rfl
  refine ih (suf, pre ++ [x], add .i64 i 1) ⟨at_len (F.inc hi (by simp [hl'] at hl; omega)) (by simp), by simp [hl'], ?_⟩ (by simp)
  rw [hT', F.not_f d1, d2, F.not_f d3, d4]; simp
def isHel (h : Hello) : Bool := areVer h.versions && areEx h.exts
theorem ok142 (h : Hello) (hv : h.versions.length ≤ 1099511627776) (hl : h.exts.length ≤ 1099511627776) (w : ∀ y ∈ h.exts, y.body.length ≤ 1099511627776) {f0 f1 : Fl} (h0 : inFl f0 = true) (h1 : inFl f1 = true) : fix Tb md 142 [sHello (row fI h.versions) (row fExt h.exts) f0 f1] = some ⟨[B (isHel h)], [], none⟩ := by
 obtain ⟨a, ha⟩ := nm (areVer h.versions)
 obtain ⟨b, hb⟩ := nm (areEx h.exts)
 rw [show isHel h = (a && b) by rw [ha, hb]; rfl]
 generalize hr : (⟨_, [], none⟩ : Ret) = r
 obtain ⟨ea, hea⟩ := nm (row fI h.versions)
 obtain ⟨eb, heb⟩ := nm (row fExt h.exts)
 rw [← hea, ← heb]
 refine fix_fn2 (fn := ir142) tb_142 rfl rfl (by decide) rfl ?_; intro Q hQ; simp only [shutArgs, shutS, List.map_cons, List.map_nil, ir142, shut_in h0, shut_in h1, List.head?_nil, reduceCtorEq, if_false, sExt, sHello, sAnswer, sEdit, sDeal, sBox, sDialed, sKnown]
 intro add sub mul arith eq ne lt le gt ge neg conv mn mx not beq len at' ln bd cut app allS isNil mks set o hP F ho
 have c1 : o 257 [R ea (.sp 0 0)] = some ⟨[B a], [], none⟩ := by rw [ho, ha, hea]; exact ok257 _ hv rfl
 have c2 : o 271 [R eb (.sp 0 0)] = some ⟨[B b], [], none⟩ := by rw [ho, hb, heb]; exact ok271 _ hl w rfl
 cbv
 rw [c1]; cbv
 refine both (fun d1 => ?_) (fun d1 => ?_) <;> rw [d1] <;> cbv
 ·rw [c2]; cbv
  rw [hQ]; cbv
  rw [← hr, d1]; rfl
 ·rw [hQ]; cbv
  rw [← hr, d1]; rfl
theorem ok255 (l : List Int) (hl : l.length ≤ 1099511627776) {f0 : Fl} (h0 : inFl f0 = true) : fix Tb md 255 [R (row fI l) f0] = some ⟨[B (areVer l)], [], none⟩ := by
 obtain ⟨T, hT⟩ := nm (verGo [] l)
 rw [show areVer l = (T && decide (0 < l.length)) by rw [hT]; rfl]
 generalize hr : (⟨_, [], none⟩ : Ret) = r
 obtain ⟨ea, hea⟩ := nm (row fI l)
 rw [← hea]
 refine fix_fn2 (fn := ir255) tb_255 rfl rfl (by decide) rfl ?_; intro Q hQ; simp only [shutArgs, shutS, List.map_cons, List.map_nil, ir255, shut_in h0, List.head?_nil, reduceCtorEq, if_false, sExt, sHello, sAnswer, sEdit, sDeal, sBox, sDialed, sKnown]
 intro add sub mul arith eq ne lt le gt ge neg conv mn mx not beq len at' ln bd cut app allS isNil mks set o hP F ho
 have la := F.len_at hea
 have h6 : gt (len ea) 0 = decide (0 < l.length) := F.gt_n la rfl
 cbv
 refine loop_ind2 hP (σ := List Int × List Int × Int × Option (Int × Int)) (fun s => match s.2.2.2 with | none => [(0, R ea .sh), (2, B false), (5, R ea .sh), (6, I (len ea)), (7, I s.2.2.1)] | some j => [(0, R ea .sh), (2, B false), (3, I j.1), (4, I j.2), (5, R ea .sh), (6, I (len ea)), (7, I s.2.2.1)]) (fun s => At s.2.2.1 s.2.1.length ∧ l = s.2.1 ++ s.1 ∧ verGo s.2.1 s.1 = T) (fun s => s.1.length) (l, [], 0, none) rfl ⟨rfl, rfl, hT.symm⟩ ?_
 intro c1 Q1 hc1 hQ1
 rintro ⟨suf, pre, i, j⟩ ⟨hi, hl', hb⟩ ih
 simp only at hi hl' hb ih
 rcases j with _ | ⟨j1, j2⟩
 all_goals
  cbv
  cases suf with
  | nil =>
   rw [F.lt_f hi la (by simp [hl'])]; cbv
   rw [hQ1]; cbv
   rw [hQ]; cbv
   rw [h6, ← hr, ← hb]; rfl
  | cons x suf =>
   obtain ⟨ix, hix⟩ := nm (pre.length * 1)
   have hpre : pre.length ≤ 1099511627776 := by rw [hl'] at hl; simp at hl; omega
   have p0 : at' 1 ea i = some (ix, [.int .i64 x]) := by rw [hix]; exact F.get hi hea hl' (fun _ => rfl) (by decide)
   obtain ⟨b1, hb1⟩ := nm (inR x 1 9)
   have c1 : o 232 [I x, I 1, I 9] = some ⟨[B b1], [], none⟩ := by rw [ho, hb1]; exact ok232 ..
   have hv0 : verGo pre (x :: suf) = (b1 && (match pre.getLast? with | none => true | some y => !decide (x ≤ y)) && verGo (pre ++ [x]) suf) := by rw [hb1]; rfl
   rw [hv0] at hb
   have hi' : At (add .i64 i 1) (pre ++ [x]).length := at_len (F.inc hi (by omega)) (by simp)
   have hl2 : l = (pre ++ [x]) ++ suf := by rw [hl']; simp
   have hg0 : gt i 0 = decide (0 < pre.length) := F.gt_n hi rfl
   rw [F.lt_t hi la (by simp [hl'])]; cbv
   rw [p0]; cbv
   rw [c1]; cbv
   refine both (fun d1 => ?_) (fun d1 => ?_) <;> rw [d1] <;> cbv
   ·rw [hQ1]; cbv
    rw [hQ]; cbv
    rw [← hr, show T = false by rw [← hb, F.not_t d1]; rfl]; rfl
   rw [F.not_f d1, Bool.true_and] at hb
   rcases List.eq_nil_or_concat pre with hp | ⟨p', y, hp⟩
   ·rw [show gt i 0 = false by rw [hg0, hp]; rfl]; cbv
    refine ih (suf, pre ++ [x], add .i64 i 1, some (i, x)) ⟨hi', hl2, ?_⟩ (by simp)
    simp only
    rw [← hb, hp]; rfl
   ·rw [show gt i 0 = true by rw [hg0, hp]; simp]; cbv
    obtain ⟨iy, hiy⟩ := nm (p'.length * 1)
    have hi2 : At (sub .i64 i 1) p'.length := by unfold At at hi ⊢; rw [hp] at hi; simp at hi; rw [F.sub, hi, wrap64 (by omega) (by rw [hp] at hpre; simp at hpre; omega)]; omega
    rw [show at' 1 ea (sub .i64 i 1) = some (iy, [.int .i64 y]) by rw [hiy]; exact F.get hi2 hea (show l = p' ++ y :: (x :: suf) by rw [hl', hp]; simp) (fun _ => rfl) (by decide)]; cbv
    skip
    obtain ⟨u, hu⟩ := nm (decide (x ≤ y))
    rw [show ge y x = u by rw [F.ge, hu]]; cbv
    have hgl : pre.getLast? = some y := by rw [hp]; simp
    rw [hgl] at hb
    simp only at hb
    rw [← hu] at hb
    refine both (fun d3 => ?_) (fun d3 => ?_) <;> rw [d3] <;> cbv
    ·rw [hQ1]; cbv
     rw [hQ]; cbv
     rw [← hr, show T = false by rw [← hb, d3]; rfl]; rfl
    ·refine ih (suf, pre ++ [x], add .i64 i 1, some (i, x)) ⟨hi', hl2, ?_⟩ (by simp)
     rw [← hb, d3]; simp
end Go.Vm
