/- What the functions answer. -/
import Derived.Test.YtijojkfdbpiimaaGreatGDTab
import Derived.Test.YtijojkfdbpiimaaGreatGDFA
import Derived.Test.YtijojkfdbpiimaaGreatGDFB
import Derived.Test.YtijojkfdbpiimaaGreatGDFC
set_option maxHeartbeats 4000000
set_option maxRecDepth 10000
set_option linter.unusedVariables false
set_option linter.unusedSimpArgs false
namespace Go.Vm
theorem ok266 (l : List Ext) (hl : l.length ≤ 1073741824) (w : ∀ y ∈ l, y.body.length ≤ 1099511627776) {f0 : Fl} (h0 : inFl f0 = true) : fix Tb md 266 [R (row fExt l) f0] = some ⟨[R (row fExt l) (.ow false)], [], none⟩ := by
 obtain ⟨ea, hea⟩ := nm (row fExt l)
 rw [← hea]
 generalize hr : (⟨_, [], none⟩ : Ret) = r
 refine fix_fn2 (fn := ir266) tb_266 rfl rfl (by decide) rfl ?_; intro Q hQ; simp only [shutArgs, shutS, List.map_cons, List.map_nil, ir266, shut_in h0, List.head?_nil, reduceCtorEq, if_false, sExt, sHello, sAnswer, sEdit, sDeal, sBox, sDialed, sKnown]
 intro add sub mul arith eq ne lt le gt ge neg conv mn mx not beq len at' ln bd cut app allS isNil mks set o hP F ho
 have c1 : o 264 [R ea (.sp 0 0), ⟨.val, [⟨.fn 347 [], .sh⟩]⟩] = some ⟨[R ea (.ow false)], [], none⟩ := by
  rw [ho, hea]
  have h := ok264_0 347 rfl (fun _ => true) l hl w (fun x _ => ok347 x.tag) (f0 := .sp 0 0) rfl
  rw [show sel (onTag fun _ => true) idE l = l by rw [sel_idE]; exact List.filter_eq_self.2 (fun _ _ => rfl)] at h
  exact h
 cbv
 rw [c1]; cbv
 rw [hQ]; cbv
 exact congrArg some hr
theorem ok261 (h : Hello) (mh : h.Mid) {f0 f1 : Fl} (q0 : inFl f0 = true) (q1 : inFl f1 = true) : fix Tb md 261 [sHello (row fI h.versions) (row fExt h.exts) f0 f1] = some ⟨[sHello (row fI h.versions) (row fExt h.exts) (.ow false) (.ow false)], [], none⟩ := by
 have mh' := mh
 unfold Hello.Mid at mh'
 obtain ⟨ev, hev⟩ := nm (row fI h.versions)
 obtain ⟨ex, hex⟩ := nm (row fExt h.exts)
 rw [← hev, ← hex]
 generalize hr : (⟨_, [], none⟩ : Ret) = r
 refine fix_fn2 (fn := ir261) tb_261 rfl rfl (by decide) rfl ?_; intro Q hQ; simp only [shutArgs, shutS, List.map_cons, List.map_nil, ir261, shut_in q0, shut_in q1, List.head?_nil, reduceCtorEq, if_false, sExt, sHello, sAnswer, sEdit, sDeal, sBox, sDialed, sKnown]
 intro add sub mul arith eq ne lt le gt ge neg conv mn mx not beq len at' ln bd cut app allS isNil mks set o hP F ho
 have c1 : o 266 [R ex (.sp 0 0)] = some ⟨[R ex (.ow false)], [], none⟩ := by rw [ho, hex]; exact ok266 _ mh'.2.1 (fun y hy => Nat.le_trans (show y.body.length ≤ 1073741824 from mh'.2.2 y hy) (by decide)) rfl
 cbv
 rw [show allS ev = true from F.scal hev (fun _ => rfl)]; cbv
 rw [F.app_nil hev (fun _ => rfl) (Nat.le_trans mh'.1 (by decide))]; cbv
 rw [c1]; cbv
 rw [hQ]; cbv
 exact congrArg some hr
def ppGo : List Box → Hello → Hello × Bool
 | [], h => (h, true)
 | b :: bs, h => if pbOk b h then ppGo bs (pbV b h) else (⟨[], []⟩, false)
def pp (path : List Box) (h : Hello) : Hello × Bool := if isHel h && decide (path.length ≤ 4) then ppGo path h else (⟨[], []⟩, false)
def ppV (path : List Box) (h : Hello) : Hello := (pp path h).1
def ppOk (path : List Box) (h : Hello) : Bool := (pp path h).2
theorem ppGo_mid : ∀ (path : List Box) {h : Hello}, h.Mid → (ppGo path h).1.Mid
 | [], _, m => m
 | b :: bs, h, m => by
  unfold ppGo
  split
  ·exact ppGo_mid bs (pbV_mid m)
  ·exact ⟨by simp, by simp, by simp⟩
theorem ppV_mid {path : List Box} {h : Hello} (m : h.Mid) : (ppV path h).Mid := by
 unfold ppV pp
 split
 ·exact ppGo_mid path m
 ·exact ⟨by simp, by simp, by simp⟩
theorem ppGo_cases : ∀ (path : List Box) (h : Hello), (ppGo path h).2 = true ∨ ppGo path h = (⟨[], []⟩, false)
 | [], _ => .inl rfl
 | b :: bs, h => by
  unfold ppGo
  split
  ·exact ppGo_cases bs _
  ·exact .inr rfl
theorem pp_cases (path : List Box) (h : Hello) : (pp path h).2 = true ∨ pp path h = (⟨[], []⟩, false) := by
 unfold pp
 split
 ·exact ppGo_cases _ _
 ·exact .inr rfl
theorem ok182r (path : List Box) (h : Hello) (pl : path.length ≤ 1073741824) (pm : ∀ y ∈ path, y.Mid) (mh : h.Mid) {f0 f1 f2 : Fl} (q0 : inFl f0 = true) (q1 : inFl f1 = true) (q2 : inFl f2 = true) (r : Ret) (rA : ∀ z, pp path h = (z, true) → (⟨[sHello (row fI z.versions) (row fExt z.exts) (.ow false) (.ow false), B true], [], none⟩ : Ret) = r) (rC : pp path h = (⟨[], []⟩, false) → (⟨[sHello [] [] .nl .nl, B false], [], none⟩ : Ret) = r) :
  fix Tb md 182 [R (row fBox path) f0, sHello (row fI h.versions) (row fExt h.exts) f1 f2] = some r := by
 have mh' := mh
 unfold Hello.Mid at mh'
 have wh : ∀ y ∈ h.exts, y.body.length ≤ 1099511627776 := fun y hy => Nat.le_trans (show y.body.length ≤ 1073741824 from mh'.2.2 y hy) (by decide)
 obtain ⟨T, hT⟩ := nm (ppGo path h)
 obtain ⟨u, hu⟩ := nm (isHel h)
 obtain ⟨k4, hk4⟩ := nm (decide (path.length ≤ 4))
 have hp : pp path h = if (u && k4) = true then T else (⟨[], []⟩, false) := by rw [hu, hk4, hT]; rfl
 rw [hp] at rA rC
 clear hp
 obtain ⟨ep, hep⟩ := nm (row fBox path)
 obtain ⟨dv, hdv⟩ := nm (row fI h.versions)
 obtain ⟨dx, hdx⟩ := nm (row fExt h.exts)
 rw [← hep, ← hdv, ← hdx]
 refine fix_fn2 (fn := ir182) tb_182 rfl rfl (by decide) rfl ?_; intro Q hQ; simp only [shutArgs, shutS, List.map_cons, List.map_nil, ir182, shut_in q0, shut_in q1, shut_in q2, List.head?_nil, reduceCtorEq, if_false, sExt, sHello, sAnswer, sEdit, sDeal, sBox, sDialed, sKnown]
 intro add sub mul arith eq ne lt le gt ge neg conv mn mx not beq len at' ln bd cut app allS isNil mks set o hP F ho
 have lp := F.len_at hep
 have c1 : o 113 [sHello dv dx (.sp 0 0) (.sp 0 1)] = some ⟨[B u], [], none⟩ := by rw [ho, hu, hdv, hdx]; exact ok113 _ (by omega) (by omega) wh rfl rfl
 have g1 : gt (len ep) 4 = not k4 := by rw [F.gt_n lp (k := 4) (m := 4) rfl, F.not, hk4, Bool.eq_iff_iff]; simp only [decide_eq_true_eq, Bool.not_eq_true', decide_eq_false_iff_not]; omega
 have c2 : o 261 [sHello dv dx (.sp 0 0) (.sp 0 1)] = some ⟨[sHello dv dx (.ow false) (.ow false)], [], none⟩ := by rw [ho, hdv, hdx]; exact ok261 h mh rfl rfl
 cbv
 rw [c1]; cbv
 refine both (fun d1 => ?_) (fun d1 => ?_) <;> rw [d1] <;> cbv
 ·rw [hQ]; cbv
  exact congrArg some (rC (by rw [F.not_t d1]; rfl))
 rw [g1]; cbv
 refine both (fun d2 => ?_) (fun d2 => ?_) <;> rw [d2] <;> cbv
 ·rw [hQ]; cbv
  exact congrArg some (rC (by rw [F.not_t d2, Bool.and_false]; rfl))
 rw [F.not_f d1, F.not_f d2, Bool.true_and, if_pos rfl] at rA rC
 rw [c2]; cbv
 refine loop_ind2 hP (σ := List Box × List Box × Int × Option (Hello × List (List V) × List (List V))) (fun s => match s.2.2.2 with
   | none => [(0, R ep .sh), (1, sHello dv dx .sh .sh), (3, ⟨.ptr 43 0, []⟩), (4, ⟨.ptr 44 0, []⟩), (5, B false), (6, ⟨.ptr 46 0, []⟩), (7, B false), (8, I s.2.2.1), (43, ⟨.box (), [⟨.row () dv, .sh⟩, ⟨.row () dx, .sh⟩]⟩), (44, ⟨.box (), [⟨.row () [], .nl⟩, ⟨.row () [], .nl⟩]⟩), (46, ⟨.box (), [⟨.row () [], .nl⟩, ⟨.row () [], .nl⟩]⟩)]
   | some j => [(0, R ep .sh), (1, sHello dv dx .sh .sh), (3, ⟨.ptr 43 0, []⟩), (4, ⟨.ptr 44 0, []⟩), (5, B false), (6, ⟨.ptr 46 0, []⟩), (7, B true), (8, I s.2.2.1), (43, ⟨.box (), [⟨.row () dv, .sh⟩, ⟨.row () dx, .sh⟩]⟩), (44, ⟨.box (), [⟨.row () [], .nl⟩, ⟨.row () [], .nl⟩]⟩), (46, ⟨.box (), [⟨.row () j.2.1, .ow false⟩, ⟨.row () j.2.2, .ow false⟩]⟩)]) (fun s => At s.2.2.1 s.2.1.length ∧ path = s.2.1 ++ s.1 ∧ (match s.2.2.2 with | none => T = (⟨[], []⟩, false) | some j => ppGo s.1 j.1 = T ∧ j.1.Mid ∧ j.2.1 = row fI j.1.versions ∧ j.2.2 = row fExt j.1.exts)) (fun s => s.1.length) (path, [], 0, some (h, dv, dx)) rfl ⟨rfl, rfl, hT.symm, mh, hdv, hdx⟩ ?_
 intro c9 Q1 hc9 hQ1
 rintro ⟨suf, pre, i, e⟩ ⟨hi, hl', hz⟩ ih
 simp only at hi hl' hz ih
 cases e with
 | none =>
  cbv
  cases suf with
  | nil =>
   rw [F.lt_f hi lp (by simp [hl'])]; cbv
   rw [hQ1]; cbv
   rw [hQ]; cbv
   exact congrArg some (rC hz)
  | cons x suf =>
   rw [F.lt_t hi lp (by simp [hl'])]; cbv
   rw [hQ1]; cbv
   rw [hQ]; cbv
   exact congrArg some (rC hz)
 | some j =>
  obtain ⟨cur, ev, ex⟩ := j
  obtain ⟨z1, z2, z3, z4⟩ := hz
  simp only at z1 z2 z3 z4
  have z2' := z2
  unfold Hello.Mid at z2'
  cases suf with
  | nil =>
   cbv
   rw [F.lt_f hi lp (by simp [hl'])]; cbv
   rw [hQ1]; cbv
   rw [hQ]; cbv
   rw [z3, z4]
   exact congrArg some (rA cur (by rw [← z1]; rfl))
  | cons x suf =>
   obtain ⟨ix, hix⟩ := nm (pre.length * 4)
   obtain ⟨e1, he1⟩ := nm (row fI x.drops)
   obtain ⟨e2, he2⟩ := nm (row fI x.strips)
   have hx := pm x (by rw [hl']; simp)
   unfold Box.Mid at hx
   have hi' : At (add .i64 i 1) (pre ++ [x]).length := at_len (F.inc hi (by rw [hl'] at pl; simp at pl; omega)) (by simp)
   have hl2 : path = (pre ++ [x]) ++ suf := by rw [hl']; simp
   have p0 : at' 4 ep i = some (ix, [.int .i64 x.limit, .row () e1, .row () e2, .bool x.lists]) := by rw [hix, he1, he2]; exact F.get hi hep hl' (fun _ => rfl) (by decide)
   cases hok : pbOk x cur with
   | true =>
    obtain ⟨nx, hnx⟩ := nm (row fExt (sel (stripE x.strips) idE cur.exts))
    have hV : pbV x cur = ⟨cur.versions, sel (stripE x.strips) idE cur.exts⟩ := by rw [pbV, hok]; rfl
    have c3 : o 174 [sBox x.limit e1 e2 x.lists (.sp 0 1) (.sp 0 2), sHello ev ex (.sp 1 0) (.sp 1 1)] = some ⟨[sHello ev nx (.ow false) (.ow false), B true], [], none⟩ := by
     rw [ho, he1, he2, z3, z4, hnx]
     exact ok174r x cur (by omega) (by omega) z2 rfl rfl rfl rfl _ (fun _ => rfl) (fun q => by rw [hok] at q; cases q)
    cbv
    rw [F.lt_t hi lp (by simp [hl'])]; cbv
    rw [p0]; cbv
    rw [c3]; cbv
    refine ih (suf, pre ++ [x], add .i64 i 1, some (pbV x cur, ev, nx)) ⟨hi', hl2, ?_, pbV_mid z2, ?_, ?_⟩ (by simp)
    ·simp only; rw [← z1, ppGo, hok, if_pos rfl]
    ·simp only; rw [hV, z3]
    ·simp only; rw [hV, hnx]
   | false =>
    have c3 : o 174 [sBox x.limit e1 e2 x.lists (.sp 0 1) (.sp 0 2), sHello ev ex (.sp 1 0) (.sp 1 1)] = some ⟨[sHello [] [] .nl .nl, B false], [], none⟩ := by
     rw [ho, he1, he2, z3, z4]
     exact ok174r x cur (by omega) (by omega) z2 rfl rfl rfl rfl _ (fun q => by rw [hok] at q; cases q) (fun _ => rfl)
    cbv
    rw [F.lt_t hi lp (by simp [hl'])]; cbv
    rw [p0]; cbv
    rw [c3]; cbv
    refine ih (suf, pre ++ [x], add .i64 i 1, none) ⟨hi', hl2, ?_⟩ (by simp)
    simp only; rw [← z1, ppGo, hok]; rfl
theorem ok182 (path : List Box) (h : Hello) (pl : path.length ≤ 1073741824) (pm : ∀ y ∈ path, y.Mid) (mh : h.Mid) {f0 f1 f2 : Fl} (q0 : inFl f0 = true) (q1 : inFl f1 = true) (q2 : inFl f2 = true) :
  fix Tb md 182 [R (row fBox path) f0, sHello (row fI h.versions) (row fExt h.exts) f1 f2] = some ⟨[sHello (row fI (ppV path h).versions) (row fExt (ppV path h).exts) (.ow false) (.ow false), B (ppOk path h)], [], none⟩ ∨
  ((ppV path h).versions = [] ∧ (ppV path h).exts = [] ∧ fix Tb md 182 [R (row fBox path) f0, sHello (row fI h.versions) (row fExt h.exts) f1 f2] = some ⟨[sHello [] [] .nl .nl, B (ppOk path h)], [], none⟩) := by
 have hmain := fun r a c => ok182r path h pl pm mh q0 q1 q2 r a c
 unfold ppV ppOk
 rcases hq : pp path h with ⟨z, k⟩
 rcases pp_cases path h with h1 | h1
 ·rw [hq] at h1
  simp only at h1
  subst h1
  exact .inl (hmain _ (fun z' q => by rw [hq] at q; cases q; rfl) (fun q => by rw [hq] at q; cases q))
 ·rw [hq] at h1; cases h1
  exact .inr ⟨rfl, rfl, hmain _ (fun z' q => by rw [hq] at q; cases q) (fun _ => rfl)⟩
def modV (n m : Int) : Int := if inR m 1 1000000000000 = true then Int.tmod (IntKind.wrap .i64 (Int.tmod n m + m)) m else 0
theorem rem_nz {n m : Int} (h : m ≠ 0) : std.arith .rem .i64 n m = some (.int .i64 (Int.tmod n m)) := by
 show (if m = 0 then none else some (VA.int .i64 (Int.tmod n m))) = _
 rw [if_neg h]
theorem ok348 (n m : Int) : fix Tb md 348 [I n, I m] = some ⟨[I (modV n m)], [], none⟩ := by
 obtain ⟨T, hT⟩ := nm (modV n m)
 rw [← hT]
 generalize hr : (⟨_, [], none⟩ : Ret) = r
 obtain ⟨v, hv⟩ := nm (inR m 1 1000000000000)
 refine fix_fn2 (fn := ir348) tb_348 rfl rfl (by decide) rfl ?_; intro Q hQ; simp only [shutArgs, shutS, List.map_cons, List.map_nil, ir348, List.head?_nil, reduceCtorEq, if_false, sExt, sHello, sAnswer, sEdit, sDeal, sBox, sDialed, sKnown]
 intro add sub mul arith eq ne lt le gt ge neg conv mn mx not beq len at' ln bd cut app allS isNil mks set o hP F ho
 have c1 : o 230 [I m, I 1, I 1000000000000] = some ⟨[B v], [], none⟩ := by rw [ho, hv]; exact ok230 ..
 cbv
 rw [c1]; cbv
 refine both (fun d1 => ?_) (fun d1 => ?_) <;> rw [d1] <;> cbv
 ·rw [hQ]; cbv
  have hv0 := F.not_t d1
  rw [← hr, hT]; unfold modV; rw [← hv, hv0]; rfl
 have hv1 := F.not_f d1
 have hm : m ≠ 0 := by rw [hv] at hv1; simp [inR] at hv1; omega
 obtain ⟨n1, hn1⟩ := nm (Int.tmod n m)
 obtain ⟨n2, hn2⟩ := nm (add .i64 n1 m)
 obtain ⟨n3, hn3⟩ := nm (Int.tmod n2 m)
 rw [show arith .rem .i64 n m = some (.int .i64 n1) by rw [F.arith, hn1]; exact rem_nz hm]; cbv
 rw [← hn2]
 rw [show arith .rem .i64 n2 m = some (.int .i64 n3) by rw [F.arith, hn3]; exact rem_nz hm]; cbv
 rw [hQ]; cbv
 rw [← hr, hT]; unfold modV; rw [← hv, hv1, if_pos rfl, hn3, hn2, hn1, F.add]
def hstep (d x : Int) : Int := Int.tmod (IntKind.wrap .i64 (IntKind.wrap .i64 (IntKind.wrap .i64 (d * 1000003) + modV x 2147483647) + 13)) 2147483647
def hashV (l : List Int) : Int := l.foldl hstep 11
theorem ok268 (l : List Int) (hl : l.length ≤ 1099511627776) {f0 : Fl} (h0 : inFl f0 = true) : fix Tb md 268 [R (row fI l) f0] = some ⟨[I (hashV l)], [], none⟩ := by
 obtain ⟨T, hT⟩ := nm (hashV l)
 rw [← hT]
 generalize hr : (⟨_, [], none⟩ : Ret) = r
 obtain ⟨ea, hea⟩ := nm (row fI l)
 rw [← hea]
 refine fix_fn2 (fn := ir268) tb_268 rfl rfl (by decide) rfl ?_; intro Q hQ; simp only [shutArgs, shutS, List.map_cons, List.map_nil, ir268, shut_in h0, List.head?_nil, reduceCtorEq, if_false, sExt, sHello, sAnswer, sEdit, sDeal, sBox, sDialed, sKnown]
 intro add sub mul arith eq ne lt le gt ge neg conv mn mx not beq len at' ln bd cut app allS isNil mks set o hP F ho
 have la := F.len_at hea
 cbv
 refine loop_ind2 hP (σ := List Int × List Int × Int × Int) (fun s => [(0, R ea .sh), (2, I 0), (3, I s.2.2.1), (4, I s.2.2.2)]) (fun s => At s.2.2.2 s.2.1.length ∧ l = s.2.1 ++ s.1 ∧ s.1.foldl hstep s.2.2.1 = T) (fun s => s.1.length) (l, [], 11, 0) rfl ⟨rfl, rfl, hT.symm⟩ ?_
 intro c1 Q1 hc1 hQ1
 rintro ⟨suf, pre, d, i⟩ ⟨hi, hl', hb⟩ ih
 simp only at hi hl' hb ih
 cbv
 cases suf with
 | nil =>
  rw [F.lt_f hi la (by simp [hl'])]; cbv
  rw [hQ1]; cbv
  rw [hQ]; cbv
  rw [← hr, ← hb]; rfl
 | cons x suf =>
  rw [List.foldl_cons] at hb
  rw [F.lt_t hi la (by simp [hl'])]; cbv
  obtain ⟨ix, hix⟩ := nm (pre.length * 1)
  rw [show at' 1 ea i = some (ix, [.int .i64 x]) by rw [hix]; exact F.get hi hea hl' (fun _ => rfl) (by decide)]; cbv
  obtain ⟨v, hv⟩ := nm (modV x 2147483647)
  rw [show o 348 [I x, I 2147483647] = some ⟨[I v], [], none⟩ by rw [ho, hv]; exact ok348 ..]; cbv
  obtain ⟨d', hd'⟩ := nm (hstep d x)
  rw [show arith .rem .i64 (add .i64 (add .i64 (mul .i64 d 1000003) v) 13) 2147483647 = some (.int .i64 d') by rw [F.arith, hd', F.add, F.add, F.mul]; unfold hstep; rw [← hv]; exact rem_nz (by decide)]; cbv
  rw [← hd'] at hb
  refine ih (suf, pre ++ [x], d', add .i64 i 1) ⟨at_len (F.inc hi (by simp [hl'] at hl; omega)) (by simp), by simp [hl'], hb⟩ (by simp)
def isTr (l : List (List Int)) : Bool := l.all bytes && decide (l.length ≤ 12)
theorem ok71 (l : List (List Int)) (w : l.length ≤ 1048576 ∧ ∀ y ∈ l, y.length ≤ 1048576) {f0 : Fl} (h0 : inFl f0 = true) : fix Tb md 71 [R (row fR l) f0] = some ⟨[B (isTr l)], [], none⟩ := by
 have w1 := w.1
 refine fix_fn (fn := ir71) tb_71 rfl rfl (by decide) rfl ?_; simp only [shutArgs, shutS, List.map_cons, List.map_nil, ir71, shut_in h0, List.head?_nil, reduceCtorEq, if_false, sExt, sHello, sAnswer, sEdit, sDeal, sBox, sDialed, sKnown]
 generalize hr : (⟨_, [], none⟩ : Ret) = r
 obtain ⟨ea, hea⟩ := nm (row fR l)
 rw [← hea]
 intro add sub mul arith eq ne lt le gt ge neg conv mn mx not beq len at' ln bd cut app allS isNil mks set o hP F ho
 have la := F.len_at hea
 cbv
 refine loop_ind hP (σ := List (List Int) × List (List Int) × Int) (fun s => [(0, R ea .sh), (2, B false), (3, I s.2.2)]) (fun s => At s.2.2 s.1.length ∧ l = s.1 ++ s.2.1 ∧ s.1.all bytes = true) (fun s => s.2.1.length) ([], l, 0) rfl ⟨rfl, rfl, rfl⟩ ?_
 rintro ⟨pre, suf, i⟩ ⟨hi, hl', hb⟩ ih
 simp only at hi hl' hb ih
 cbv
 cases suf with
 | nil =>
  rw [F.lt_f hi la (by simp [hl'])]; cbv
  have h12 : le (len ea) 12 = decide (l.length ≤ 12) := by unfold At at la; rw [F.le, la]; simp; omega
  have hall : l.all bytes = true := by rw [hl', List.append_nil]; exact hb
  rw [h12, ← hr, isTr, hall, Bool.true_and]
 | cons x suf =>
  rw [F.lt_t hi la (by simp [hl'])]; cbv
  obtain ⟨ix, hix⟩ := nm (pre.length * 1)
  obtain ⟨e1, he1⟩ := nm (row fI x)
  rw [show at' 1 ea i = some (ix, [.row () e1]) by rw [hix, he1]; exact F.get hi hea hl' (fun _ => rfl) (by decide)]; cbv
  obtain ⟨v, hv⟩ := nm (bytes x)
  rw [show o 231 [R e1 (.sp 0 0)] = some ⟨[B v], [], none⟩ by rw [ho, hv, he1]; exact ok231 x (by have := w.2 x (by rw [hl']; simp); omega) rfl]; cbv
  refine both (fun c => ?_) (fun c => ?_) <;> rw [c] <;> cbv
  ·rw [← hr, hl']
   rw [F.not] at c
   simp [isTr] at *
   simp_all
  ·rw [F.not] at c
   simp at c
   refine ih (pre ++ [x], suf, add .i64 i 1) ⟨at_len (F.inc hi (by simp [hl'] at w1; omega)) (by simp), by simp [hl'], ?_⟩ (by simp)
   rw [List.all_append, hb]
   simp [← hv, c]
def hcons (h : Int) (b : List Int) : Int := hashV (h :: (b.length : Int) :: b)
def thash (l : List (List Int)) : Int := if isTr l = true then l.foldl hcons 1 else 0
theorem ok120 (l : List (List Int)) (w : l.length ≤ 1048576 ∧ ∀ y ∈ l, y.length ≤ 1048576) {f0 : Fl} (h0 : inFl f0 = true) : fix Tb md 120 [R (row fR l) f0] = some ⟨[I (thash l)], [], none⟩ := by
 have w1 := w.1
 obtain ⟨T, hT⟩ := nm (thash l)
 rw [← hT]
 generalize hr : (⟨_, [], none⟩ : Ret) = r
 obtain ⟨ea, hea⟩ := nm (row fR l)
 rw [← hea]
 obtain ⟨u, hu⟩ := nm (isTr l)
 refine fix_fn2 (fn := ir120) tb_120 rfl rfl (by decide) rfl ?_; intro Q hQ; simp only [shutArgs, shutS, List.map_cons, List.map_nil, ir120, shut_in h0, List.head?_nil, reduceCtorEq, if_false, sExt, sHello, sAnswer, sEdit, sDeal, sBox, sDialed, sKnown]
 intro add sub mul arith eq ne lt le gt ge neg conv mn mx not beq len at' ln bd cut app allS isNil mks set o hP F ho
 have la := F.len_at hea
 have c1 : o 71 [R ea (.sp 0 0)] = some ⟨[B u], [], none⟩ := by rw [ho, hu, hea]; exact ok71 _ w rfl
 cbv
 rw [c1]; cbv
 refine both (fun d1 => ?_) (fun d1 => ?_) <;> rw [d1] <;> cbv
 ·rw [hQ]; cbv
  rw [← hr, hT]; unfold thash; rw [← hu, F.not_t d1]; rfl
 have hT' : T = l.foldl hcons 1 := by rw [hT]; unfold thash; rw [← hu, F.not_f d1]; rfl
 refine loop_ind2 hP (σ := List (List Int) × List (List Int) × Int × Int) (fun s => [(0, R ea .sh), (2, I 0), (3, I s.2.2.1), (4, I s.2.2.2)]) (fun s => At s.2.2.2 s.2.1.length ∧ l = s.2.1 ++ s.1 ∧ s.1.foldl hcons s.2.2.1 = T) (fun s => s.1.length) (l, [], 1, 0) rfl ⟨rfl, rfl, hT'.symm⟩ ?_
 intro c1 Q1 hc1 hQ1
 rintro ⟨suf, pre, d, i⟩ ⟨hi, hl', hb⟩ ih
 simp only at hi hl' hb ih
 cbv
 cases suf with
 | nil =>
  rw [F.lt_f hi la (by simp [hl'])]; cbv
  rw [hQ1]; cbv
  rw [hQ]; cbv
  rw [← hr, ← hb]; rfl
 | cons x suf =>
  have hx := w.2 x (by rw [hl']; simp)
  rw [List.foldl_cons] at hb
  obtain ⟨nx, hnx⟩ := nm ((x.length : Int))
  have hc : hcons d x = hashV (d :: nx :: x) := by rw [hnx]; rfl
  rw [F.lt_t hi la (by simp [hl'])]; cbv
  obtain ⟨ix, hix⟩ := nm (pre.length * 1)
  obtain ⟨e1, he1⟩ := nm (row fI x)
  have l1 : len e1 = nx := by rw [hnx]; exact F.len_at he1
  have p0 : at' 1 ea i = some (ix, [.row () e1]) := by rw [hix, he1]; exact F.get hi hea hl' (fun _ => rfl) (by decide)
  rw [p0]; cbv
  rw [l1]; cbv
  try (rw [p0]; cbv)
  try (rw [show allS e1 = true from F.scal he1 (fun _ => rfl)]; cbv)
  obtain ⟨e2, he2⟩ := nm (row fI (d :: nx :: x))
  rw [show app 1 [[.int .i64 d], [.int .i64 nx]] e1 = some e2 by rw [F.app' (f := fI) (e1 := [[.int .i64 d], [.int .i64 nx]]) (l1 := [d, nx]) rfl he1 (fun _ => rfl) (by simp; omega), he2]; rfl]; cbv
  obtain ⟨d', hd'⟩ := nm (hcons d x)
  rw [show o 268 [R e2 (.sp 0 0)] = some ⟨[I d'], [], none⟩ by rw [ho, hd', hc, he2]; exact ok268 _ (by simp; omega) rfl]; cbv
  rw [← hd'] at hb
  refine ih (suf, pre ++ [x], d', add .i64 i 1) ⟨at_len (F.inc hi (by simp [hl'] at w1; omega)) (by simp), by simp [hl'], hb⟩ (by simp)
def vKey (k : Int) : Bool := inR k 1 2147483646
theorem ok282 (k : Int) : fix Tb md 282 [I k] = some ⟨[B (vKey k)], [], none⟩ := by
 obtain ⟨a, ha⟩ := nm (vKey k)
 rw [← ha]
 generalize hr : (⟨_, [], none⟩ : Ret) = r
 refine fix_fn2 (fn := ir282) tb_282 rfl rfl (by decide) rfl ?_; intro Q hQ; simp only [shutArgs, shutS, List.map_cons, List.map_nil, ir282, List.head?_nil, reduceCtorEq, if_false, sExt, sHello, sAnswer, sEdit, sDeal, sBox, sDialed, sKnown]
 intro add sub mul arith eq ne lt le gt ge neg conv mn mx not beq len at' ln bd cut app allS isNil mks set o hP F ho
 have c1 : o 230 [I k, I 1, I 2147483646] = some ⟨[B a], [], none⟩ := by rw [ho, ha]; exact ok230 ..
 cbv
 rw [c1]; cbv
 rw [hQ]; cbv
 exact congrArg some hr
def khash (k : Int) (l : List Int) : Int := hashV (k :: l ++ [k])
theorem ok283 (k : Int) (l : List Int) (hl : l.length ≤ 1073741824) {f0 : Fl} (q0 : inFl f0 = true) : fix Tb md 283 [I k, R (row fI l) f0] = some ⟨[I (khash k l)], [], none⟩ := by
 obtain ⟨T, hT⟩ := nm (khash k l)
 rw [← hT]
 generalize hr : (⟨_, [], none⟩ : Ret) = r
 obtain ⟨ea, hea⟩ := nm (row fI l)
 rw [← hea]
 obtain ⟨e1, he1⟩ := nm (row fI (k :: l))
 obtain ⟨e2, he2⟩ := nm (row fI (k :: l ++ [k]))
 refine fix_fn2 (fn := ir283) tb_283 rfl rfl (by decide) rfl ?_; intro Q hQ; simp only [shutArgs, shutS, List.map_cons, List.map_nil, ir283, shut_in q0, List.head?_nil, reduceCtorEq, if_false, sExt, sHello, sAnswer, sEdit, sDeal, sBox, sDialed, sKnown]
 intro add sub mul arith eq ne lt le gt ge neg conv mn mx not beq len at' ln bd cut app allS isNil mks set o hP F ho
 have p1 : app 1 [[.int .i64 k]] ea = some e1 := by rw [he1]; exact F.app' (f := fI) (k := 1) (e1 := [[.int .i64 k]]) (l1 := [k]) rfl hea (fun _ => rfl) (by simp; omega)
 have p2 : app 1 e1 [[.int .i64 k]] = some e2 := by rw [he2]; exact F.app' (f := fI) (k := 1) (e2 := [[.int .i64 k]]) (l2 := [k]) he1 rfl (fun _ => rfl) (by simp; omega)
 have p3 : allS ea = true := F.scal hea (fun _ => rfl)
 have p4 : allS [[.int .i64 k]] = true := by rw [F.allS]; rfl
 have c1 : o 268 [R e2 (.sp 0 0)] = some ⟨[I T], [], none⟩ := by rw [ho, he2, hT]; exact ok268 _ (by simp; omega) rfl
 cbv
 rw [p3]; cbv
 rw [p1]; cbv
 rw [p4]; cbv
 rw [p2]; cbv
 rw [c1]; cbv
 rw [hQ]; cbv
 exact congrArg some hr
def finV (k : Int) (l : List (List Int)) (s : Int) : Int := if vKey k && isTr l && inR s 0 1 then khash k [s, thash l] else 0
def chkV (k : Int) (l : List (List Int)) (s f : Int) : Bool := !decide (f = 0) && decide (finV k l s = f)
theorem ok143 (k : Int) (l : List (List Int)) (s : Int) (w : l.length ≤ 1048576 ∧ ∀ y ∈ l, y.length ≤ 1048576) {f0 : Fl} (q0 : inFl f0 = true) : fix Tb md 143 [I k, R (row fR l) f0, I s] = some ⟨[I (finV k l s)], [], none⟩ := by
 obtain ⟨a, ha⟩ := nm (vKey k)
 obtain ⟨b, hb⟩ := nm (isTr l)
 obtain ⟨c, hc⟩ := nm (inR s 0 1)
 obtain ⟨n, hn⟩ := nm (thash l)
 obtain ⟨m, hm⟩ := nm (khash k [s, n])
 rw [show finV k l s = if a && b && c then m else 0 by rw [ha, hb, hc, hm, hn]; rfl]
 generalize hr : (⟨_, [], none⟩ : Ret) = r
 obtain ⟨el, hel⟩ := nm (row fR l)
 rw [← hel]
 refine fix_fn2 (fn := ir143) tb_143 rfl rfl (by decide) rfl ?_; intro Q hQ; simp only [shutArgs, shutS, List.map_cons, List.map_nil, ir143, shut_in q0, List.head?_nil, reduceCtorEq, if_false, sExt, sHello, sAnswer, sEdit, sDeal, sBox, sDialed, sKnown]
 intro add sub mul arith eq ne lt le gt ge neg conv mn mx not beq len at' ln bd cut app allS isNil mks set o hP F ho
 have c1 : o 282 [I k] = some ⟨[B a], [], none⟩ := by rw [ho, ha]; exact ok282 ..
 have c2 : o 71 [R el (.sp 0 0)] = some ⟨[B b], [], none⟩ := by rw [ho, hb, hel]; exact ok71 _ w rfl
 have c3 : o 230 [I s, I 0, I 1] = some ⟨[B c], [], none⟩ := by rw [ho, hc]; exact ok230 ..
 have c4 : o 120 [R el (.sp 0 0)] = some ⟨[I n], [], none⟩ := by rw [ho, hn, hel]; exact ok120 _ w rfl
 have c5 : o 283 [I k, R [[.int .i64 s], [.int .i64 n]] (.sp 1 0)] = some ⟨[I m], [], none⟩ := by rw [ho, hm]; exact ok283 k [s, n] (by simp) rfl
 cbv
 rw [c1]; cbv
 refine both (fun d1 => ?_) (fun d1 => ?_) <;> rw [d1] <;> cbv
 ·rw [hQ]; cbv
  rw [← hr, F.not_t d1]; rfl
 rw [c2]; cbv
 refine both (fun d2 => ?_) (fun d2 => ?_) <;> rw [d2] <;> cbv
 ·rw [hQ]; cbv
  rw [← hr, F.not_f d1, F.not_t d2]; rfl
 rw [c3]; cbv
 refine both (fun d3 => ?_) (fun d3 => ?_) <;> rw [d3] <;> cbv
 ·rw [hQ]; cbv
  rw [← hr, F.not_f d1, F.not_f d2, F.not_t d3]; rfl
 rw [c4]; cbv
 rw [c5]; cbv
 rw [hQ]; cbv
 rw [← hr, F.not_f d1, F.not_f d2, F.not_f d3]; rfl
def isAns (v : Int) (l : List Ext) : Bool := inR v 1 9 && areEx l
theorem ok127 (v : Int) (l : List Ext) (hl : l.length ≤ 1099511627776) (w : ∀ y ∈ l, y.body.length ≤ 1099511627776) {f0 : Fl} (h0 : inFl f0 = true) : fix Tb md 127 [sAnswer v (row fExt l) f0] = some ⟨[B (isAns v l)], [], none⟩ := by
 obtain ⟨a, ha⟩ := nm (inR v 1 9)
 obtain ⟨b, hb⟩ := nm (areEx l)
 rw [show isAns v l = (a && b) by rw [ha, hb]; rfl]
 generalize hr : (⟨_, [], none⟩ : Ret) = r
 obtain ⟨ea, hea⟩ := nm (row fExt l)
 rw [← hea]
 refine fix_fn2 (fn := ir127) tb_127 rfl rfl (by decide) rfl ?_; intro Q hQ; simp only [shutArgs, shutS, List.map_cons, List.map_nil, ir127, shut_in h0, List.head?_nil, reduceCtorEq, if_false, sExt, sHello, sAnswer, sEdit, sDeal, sBox, sDialed, sKnown]
 intro add sub mul arith eq ne lt le gt ge neg conv mn mx not beq len at' ln bd cut app allS isNil mks set o hP F ho
 have c1 : o 230 [I v, I 1, I 9] = some ⟨[B a], [], none⟩ := by rw [ho, ha]; exact ok230 ..
 have c2 : o 271 [R ea (.sp 0 0)] = some ⟨[B b], [], none⟩ := by rw [ho, hb, hea]; exact ok271 _ hl w rfl
 cbv
 rw [c1]; cbv
 refine both (fun d1 => ?_) (fun d1 => ?_) <;> rw [d1] <;> cbv
 ·rw [c2]; cbv
  rw [hQ]; cbv
  rw [← hr, d1]; rfl
 ·rw [hQ]; cbv
  rw [← hr, d1]; rfl
def exI (e : Ext) : List Int := e.tag :: (e.body.length : Int) :: e.body
def encX (l : List Ext) : List Int := (l.length : Int) :: l.flatMap exI
theorem exOk_all : ∀ {suf pre : List Ext}, exOk pre suf = true → ∀ y ∈ suf, y.body.length ≤ 4 ∧ inR y.tag 0 255 = true ∧ bytes y.body = true
 | [], _, _, y, hy => by simp at hy
 | x :: suf, pre, h, y, hy => by
  simp only [exOk, Bool.and_eq_true] at h
  obtain ⟨⟨⟨⟨h1, h2⟩, h3⟩, h4⟩, h5⟩ := h
  rcases List.mem_cons.1 hy with rfl | hy
  ·refine ⟨?_, h1, h3⟩
   simp at h2; omega
  ·exact exOk_all h5 y hy
theorem areEx_all {l : List Ext} (h : areEx l = true) : l.length ≤ 6 ∧ ∀ y ∈ l, y.body.length ≤ 4 ∧ inR y.tag 0 255 = true ∧ bytes y.body = true := by
 simp only [areEx, Bool.and_eq_true, decide_eq_true_eq] at h
 exact ⟨h.2, exOk_all h.1⟩
theorem exI_len : ∀ {l : List Ext}, (∀ y ∈ l, y.body.length ≤ 4) → (l.flatMap exI).length ≤ 6 * l.length
 | [], _ => by simp
 | x :: l, h => by
  have h1 := h x (by simp)
  have h2 := exI_len (l := l) (fun y hy => h y (by simp [hy]))
  rw [List.flatMap_cons, List.length_append, List.length_cons]
  simp only [exI, List.length_cons]
  omega
theorem encX_len {l : List Ext} (h : areEx l = true) : (encX l).length ≤ 37 := by
 obtain ⟨h1, h2⟩ := areEx_all h
 have := exI_len (fun y hy => (h2 y hy).1)
 simp only [encX, List.length_cons]
 omega
theorem ok293 (l : List Ext) (hok : areEx l = true) {f0 : Fl} (h0 : inFl f0 = true) : fix Tb md 293 [R (row fExt l) f0] = some ⟨[R (row fI (encX l)) (.ow false), B true], [], none⟩ := by
 obtain ⟨hl, hw⟩ := areEx_all hok
 obtain ⟨et, het⟩ := nm (row fI (encX l))
 rw [← het]
 generalize hr : (⟨_, [], none⟩ : Ret) = r
 obtain ⟨ea, hea⟩ := nm (row fExt l)
 rw [← hea]
 obtain ⟨nl, hnl⟩ := nm ((l.length : Int))
 obtain ⟨e0, he0⟩ := nm (row fI [nl])
 have hen : encX l = nl :: l.flatMap exI := by rw [hnl]; rfl
 refine fix_fn2 (fn := ir293) tb_293 rfl rfl (by decide) rfl ?_; intro Q hQ; simp only [shutArgs, shutS, List.map_cons, List.map_nil, ir293, shut_in h0, List.head?_nil, reduceCtorEq, if_false, sExt, sHello, sAnswer, sEdit, sDeal, sBox, sDialed, sKnown]
 intro add sub mul arith eq ne lt le gt ge neg conv mn mx not beq len at' ln bd cut app allS isNil mks set o hP F ho
 have la := F.len_at hea
 have lna : len ea = nl := by rw [hnl]; exact la
 have la' : At nl l.length := hnl
 have c1 : o 271 [R ea (.sp 0 0)] = some ⟨[B true], [], none⟩ := by rw [ho, hea, ← hok]; exact ok271 _ (by omega) (fun y hy => by have := (hw y hy).1; omega) rfl
 cbv
 rw [c1]; cbv
 rw [show not true = false by rw [F.not]; rfl]; cbv
 rw [lna]
 refine loop_ind2 hP (σ := List Ext × List Ext × List (List V) × Int) (fun s => [(0, R ea .sh), (2, R [] .nl), (3, B false), (4, R s.2.2.1 (.ow false)), (5, I s.2.2.2)]) (fun s => At s.2.2.2 s.2.1.length ∧ l = s.2.1 ++ s.1 ∧ s.2.2.1 = row fI (nl :: s.2.1.flatMap exI)) (fun s => s.1.length) (l, [], [[.int .i64 nl]], 0) rfl ⟨rfl, rfl, rfl⟩ ?_
 intro c1 Q1 hc1 hQ1
 rintro ⟨suf, pre, eo, i⟩ ⟨hi, hl', hb⟩ ih
 simp only at hi hl' hb ih
 have hpre : pre.length ≤ 6 := by rw [hl'] at hl; simp at hl; omega
 have hfl : (pre.flatMap exI).length ≤ 36 := by have := exI_len (l := pre) (fun y hy => (hw y (by rw [hl']; simp [hy])).1); omega
 cbv
 cases suf with
 | nil =>
  rw [F.lt_f hi la (by simp [hl'])]; cbv
  rw [hQ1]; cbv
  rw [hQ]; cbv
  rw [← hr, het, hb, hen, hl', List.append_nil]
 | cons x suf =>
  obtain ⟨ix, hix⟩ := nm (pre.length * 2)
  obtain ⟨e1, he1⟩ := nm (row fI x.body)
  obtain ⟨nb, hnb⟩ := nm ((x.body.length : Int))
  have hx := (hw x (by rw [hl']; simp)).1
  have hxi : exI x = x.tag :: nb :: x.body := by rw [hnb]; rfl
  have p0 : at' 2 ea i = some (ix, [.int .i64 x.tag, .row () e1]) := by rw [hix, he1]; exact F.get hi hea hl' (fun _ => rfl) (by decide)
  have l1 : len e1 = nb := by rw [hnb]; exact F.len_at he1
  obtain ⟨eo1, heo1⟩ := nm (row fI (nl :: pre.flatMap exI ++ [x.tag, nb]))
  obtain ⟨eo2, heo2⟩ := nm (row fI (nl :: (pre ++ [x]).flatMap exI))
  have q1 : app 1 eo [[.int .i64 x.tag], [.int .i64 nb]] = some eo1 := by
   have h := F.app' (f := fI) (k := 1) (e2 := [[.int .i64 x.tag], [.int .i64 nb]]) (l2 := [x.tag, nb]) hb rfl (fun _ => rfl) (by simp only [List.length_cons, List.length_append, List.length_nil]; omega)
   rw [h, heo1]
  have q2 : app 1 eo1 e1 = some eo2 := by
   have h := F.app' (f := fI) (k := 1) heo1 he1 (fun _ => rfl) (by simp only [List.length_cons, List.length_append, List.length_nil]; omega)
   rw [h, heo2, List.flatMap_append, List.flatMap_cons, hxi]; simp
  have q3 : allS [[.int .i64 x.tag], [.int .i64 nb]] = true := by rw [F.allS]; rfl
  have q4 : allS e1 = true := F.scal he1 (fun _ => rfl)
  rw [F.lt_t hi la (by simp [hl'])]; cbv
  rw [p0]; cbv
  repeat' (first | (rw [p0]; cbv) | (rw [l1]; cbv) | (rw [q1]; cbv) | (rw [q2]; cbv) | (rw [q3]; cbv) | (rw [q4]; cbv))
  refine ih (suf, pre ++ [x], eo2, add .i64 i 1) ⟨at_len (F.inc hi (by omega)) (by simp), by simp [hl'], heo2⟩ (by simp)
def ansB (a : Answer) : List Int := if isAns a.version a.exts = true then a.version :: encX a.exts else []
theorem ok151 (a : Answer) (hl : a.exts.length ≤ 1099511627776) (w : ∀ y ∈ a.exts, y.body.length ≤ 1099511627776) {f0 : Fl} (h0 : inFl f0 = true) : fix Tb md 151 [sAnswer a.version (row fExt a.exts) f0] = some ⟨[R (row fI (ansB a)) (.ow false)], [], none⟩ := by
 obtain ⟨u, hu⟩ := nm (isAns a.version a.exts)
 cases hu2 : u with
 | true =>
  rw [hu2] at hu
  have hok : areEx a.exts = true := by unfold isAns at hu; cases h : areEx a.exts with | true => rfl | false => rw [h, Bool.and_false] at hu; exact Bool.noConfusion hu
  obtain ⟨et, het⟩ := nm (row fI (ansB a))
  rw [← het]
  generalize hr : (⟨_, [], none⟩ : Ret) = r
  obtain ⟨ea, hea⟩ := nm (row fExt a.exts)
  rw [← hea]
  obtain ⟨ex, hex⟩ := nm (row fI (encX a.exts))
  have hlen := encX_len hok
  refine fix_fn2 (fn := ir151) tb_151 rfl rfl (by decide) rfl ?_; intro Q hQ; simp only [shutArgs, shutS, List.map_cons, List.map_nil, ir151, shut_in h0, List.head?_nil, reduceCtorEq, if_false, sExt, sHello, sAnswer, sEdit, sDeal, sBox, sDialed, sKnown]
  intro add sub mul arith eq ne lt le gt ge neg conv mn mx not beq len at' ln bd cut app allS isNil mks set o hP F ho
  have c1 : o 127 [sAnswer a.version ea (.sp 0 1)] = some ⟨[B true], [], none⟩ := by rw [ho, hu, hea]; exact ok127 _ _ hl w rfl
  have c2 : o 293 [R ea (.sp 0 0)] = some ⟨[R ex (.ow false), B true], [], none⟩ := by rw [ho, hea, hex]; exact ok293 _ hok rfl
  have q1 : app 1 [[.int .i64 a.version]] ex = some et := by
   have h := F.app' (f := fI) (k := 1) (e1 := [[.int .i64 a.version]]) (l1 := [a.version]) rfl hex (fun _ => rfl) (by simp; omega)
   rw [h, het, ansB, ← hu, if_pos rfl]; rfl
  have q2 : allS ex = true := F.scal hex (fun _ => rfl)
  cbv
  rw [c1]; cbv
  rw [show not true = false by rw [F.not]; rfl]; cbv
  rw [c2]; cbv
  rw [q2]; cbv
  rw [q1]; cbv
  rw [hQ]; cbv
  exact congrArg some hr
 | false =>
  rw [hu2] at hu
  rw [show ansB a = [] by rw [ansB, ← hu]; rfl]
  generalize hr : (⟨_, [], none⟩ : Ret) = r
  obtain ⟨ea, hea⟩ := nm (row fExt a.exts)
  rw [← hea]
  refine fix_fn2 (fn := ir151) tb_151 rfl rfl (by decide) rfl ?_; intro Q hQ; simp only [shutArgs, shutS, List.map_cons, List.map_nil, ir151, shut_in h0, List.head?_nil, reduceCtorEq, if_false, sExt, sHello, sAnswer, sEdit, sDeal, sBox, sDialed, sKnown]
  intro add sub mul arith eq ne lt le gt ge neg conv mn mx not beq len at' ln bd cut app allS isNil mks set o hP F ho
  have c1 : o 127 [sAnswer a.version ea (.sp 0 1)] = some ⟨[B false], [], none⟩ := by rw [ho, hu, hea]; exact ok127 _ _ hl w rfl
  cbv
  rw [c1]; cbv
  rw [show not false = true by rw [F.not]; rfl]; cbv
  rw [hQ]; cbv
  exact congrArg some hr
theorem ansB_len (a : Answer) : (ansB a).length ≤ 38 := by
 unfold ansB
 split
 ·rename_i h
  have hok : areEx a.exts = true := by unfold isAns at h; simp at h; exact h.2
  have := encX_len hok
  rw [List.length_cons]; omega
 ·simp
def resv (t : Int) : Bool := inR t 0 255 && decide (Int.tmod t 16 = 10)
theorem ok301 (t : Int) : fix Tb md 301 [I t] = some ⟨[B (resv t)], [], none⟩ := by
 obtain ⟨a, ha⟩ := nm (inR t 0 255)
 obtain ⟨n, hn⟩ := nm (Int.tmod t 16)
 obtain ⟨b, hb⟩ := nm (decide (n = 10))
 rw [show resv t = (a && b) by rw [ha, hb, hn]; rfl]
 generalize hr : (⟨_, [], none⟩ : Ret) = r
 refine fix_fn2 (fn := ir301) tb_301 rfl rfl (by decide) rfl ?_; intro Q hQ; simp only [shutArgs, shutS, List.map_cons, List.map_nil, ir301, List.head?_nil, reduceCtorEq, if_false, sExt, sHello, sAnswer, sEdit, sDeal, sBox, sDialed, sKnown]
 intro add sub mul arith eq ne lt le gt ge neg conv mn mx not beq len at' ln bd cut app allS isNil mks set o hP F ho
 have c1 : o 230 [I t, I 0, I 255] = some ⟨[B a], [], none⟩ := by rw [ho, ha]; exact ok230 ..
 have g1 : arith .rem .i64 t 16 = some (.int .i64 n) := by rw [F.arith, hn]; rfl
 have g2 : eq n 10 = b := by rw [F.eq, hb]
 cbv
 rw [c1]; cbv
 refine both (fun d => ?_) (fun d => ?_) <;> rw [d] <;> cbv
 ·rw [g1]; cbv
  rw [hQ]; cbv
  rw [g2, ← hr, d]; rfl
 ·rw [hQ]; cbv
  rw [← hr, d]; rfl
def okT (h : Hello) (e : Ext) : Bool := !(decide (extOf h.exts e.tag < 0) || resv e.tag)
def fitsV (h : Hello) (a : Answer) : Bool := a.exts.all (okT h) && isHel h && isAns a.version a.exts && hasI h.versions a.version
theorem ok160 (h : Hello) (a : Answer) (mh : h.Mid) (ma : a.Mid) {f0 f1 f2 : Fl} (q0 : inFl f0 = true) (q1 : inFl f1 = true) (q2 : inFl f2 = true) : fix Tb md 160 [sHello (row fI h.versions) (row fExt h.exts) f0 f1, sAnswer a.version (row fExt a.exts) f2] = some ⟨[B (fitsV h a)], [], none⟩ := by
 have mh' := mh
 have ma' := ma
 unfold Hello.Mid at mh
 unfold Answer.Mid at ma
 obtain ⟨T1, hT1⟩ := nm (a.exts.all (okT h))
 obtain ⟨u1, hu1⟩ := nm (isHel h)
 obtain ⟨u2, hu2⟩ := nm (isAns a.version a.exts)
 obtain ⟨u3, hu3⟩ := nm (hasI h.versions a.version)
 rw [show fitsV h a = (T1 && u1 && u2 && u3) by rw [hT1, hu1, hu2, hu3]; rfl]
 generalize hr : (⟨_, [], none⟩ : Ret) = r
 obtain ⟨dv, hdv⟩ := nm (row fI h.versions)
 obtain ⟨dx, hdx⟩ := nm (row fExt h.exts)
 obtain ⟨ex, hex⟩ := nm (row fExt a.exts)
 rw [← hdv, ← hdx, ← hex]
 have wh : ∀ y ∈ h.exts, y.body.length ≤ 1099511627776 := fun y hy => Nat.le_trans (show y.body.length ≤ 1073741824 from mh.2.2 y hy) (by decide)
 have wa : ∀ y ∈ a.exts, y.body.length ≤ 1099511627776 := fun y hy => Nat.le_trans (show y.body.length ≤ 1073741824 from ma.2 y hy) (by decide)
 have mal := ma.1
 refine fix_fn2 (fn := ir160) tb_160 rfl rfl (by decide) rfl ?_; intro Q hQ; simp only [shutArgs, shutS, List.map_cons, List.map_nil, ir160, shut_in q0, shut_in q1, shut_in q2, List.head?_nil, reduceCtorEq, if_false, sExt, sHello, sAnswer, sEdit, sDeal, sBox, sDialed, sKnown]
 intro add sub mul arith eq ne lt le gt ge neg conv mn mx not beq len at' ln bd cut app allS isNil mks set o hP F ho
 have lx := F.len_at hex
 have c1 : o 142 [sHello dv dx (.sp 0 0) (.sp 0 1)] = some ⟨[B u1], [], none⟩ := by rw [ho, hu1, hdv, hdx]; exact ok142 _ (by omega) (by omega) wh rfl rfl
 have c2 : o 127 [sAnswer a.version ex (.sp 0 1)] = some ⟨[B u2], [], none⟩ := by rw [ho, hu2, hex]; exact ok127 _ _ (by omega) wa rfl
 have c3 : o 285 [R dv (.sp 0 0), I a.version] = some ⟨[B u3], [], none⟩ := by rw [ho, hu3, hdv]; exact ok285 _ _ (by omega) rfl
 cbv
 refine loop_ind2 hP (σ := List Ext × List Ext × Int) (fun s => [(0, sHello dv dx .sh .sh), (1, sAnswer a.version ex .sh), (2, ⟨.ptr 47 0, []⟩), (3, ⟨.ptr 48 0, []⟩), (4, B false), (5, I s.2.2), (47, ⟨.box (), [⟨.row () dv, .sh⟩, ⟨.row () dx, .sh⟩]⟩), (48, ⟨.box (), [⟨.int .i64 a.version, .sc⟩, ⟨.row () ex, .sh⟩]⟩)]) (fun s => At s.2.2 s.2.1.length ∧ a.exts = s.2.1 ++ s.1 ∧ s.1.all (okT h) = T1) (fun s => s.1.length) (a.exts, [], 0) rfl ⟨rfl, rfl, hT1.symm⟩ ?_
 intro c9 Q1 hc1 hQ1
 rintro ⟨suf, pre, i⟩ ⟨hi, hl', hb⟩ ih
 simp only at hi hl' hb ih
 cbv
 cases suf with
 | nil =>
  have hT1' : T1 = true := by rw [← hb]; rfl
  rw [F.lt_f hi lx (by simp [hl'])]; cbv
  rw [hQ1]; cbv
  rw [c1]; cbv
  refine both (fun d1 => ?_) (fun d1 => ?_) <;> rw [d1] <;> cbv
  ·rw [c2]; cbv
   refine both (fun d2 => ?_) (fun d2 => ?_) <;> rw [d2] <;> cbv
   ·rw [c3]; cbv
    rw [hQ]; cbv
    rw [← hr, hT1', d1, d2]; rfl
   ·rw [hQ]; cbv
    rw [← hr, hT1', d1, d2]; rfl
  ·rw [hQ]; cbv
   rw [← hr, hT1', d1]; rfl
 | cons y suf =>
  obtain ⟨ix, hix⟩ := nm (pre.length * 2)
  obtain ⟨e1, he1⟩ := nm (row fI y.body)
  have hi' : At (add .i64 i 1) (pre ++ [y]).length := at_len (F.inc hi (by simp [hl'] at mal; omega)) (by simp)
  have hl2 : a.exts = (pre ++ [y]) ++ suf := by rw [hl']; simp
  have p0 : at' 2 ex i = some (ix, [.int .i64 y.tag, .row () e1]) := by rw [hix, he1]; exact F.get hi hex hl' (fun _ => rfl) (by decide)
  obtain ⟨v, hvv⟩ := nm (extOf h.exts y.tag)
  obtain ⟨b1, hb1⟩ := nm (decide (v < 0))
  obtain ⟨b2, hb2⟩ := nm (resv y.tag)
  have hT' : T1 = (!(b1 || b2) && suf.all (okT h)) := by rw [← hb, hb1, hb2, hvv]; rfl
  have c4 : o 286 [R dx (.sp 0 0), I y.tag] = some ⟨[I v], [], none⟩ := by rw [ho, hvv, hdx]; exact ok286 _ _ (by omega) rfl
  have c5 : o 301 [I y.tag] = some ⟨[B b2], [], none⟩ := by rw [ho, hb2]; exact ok301 ..
  have g1 : lt v 0 = b1 := by rw [F.lt, hb1]
  rw [F.lt_t hi lx (by simp [hl'])]; cbv
  rw [p0]; cbv
  rw [c4]; cbv
  rw [g1]; cbv
  refine both (fun d1 => ?_) (fun d1 => ?_) <;> rw [d1] <;> cbv
  ·rw [hQ1]; cbv
   rw [hQ]; cbv
   rw [← hr, hT', d1]; rfl
  rw [p0]; cbv
  rw [c5]; cbv
  refine both (fun d2 => ?_) (fun d2 => ?_) <;> rw [d2] <;> cbv
  ·rw [hQ1]; cbv
   rw [hQ]; cbv
   rw [← hr, hT', d2, Bool.or_true]; rfl
  refine ih (suf, pre ++ [y], add .i64 i 1) ⟨hi', hl2, ?_⟩ (by simp)
  rw [hT', d1, d2]; rfl
def comm (a b : List Int) : List Int := sel (hasI b) idI a
def bestC (a b : List Int) : Int := if areVer a && areVer b then (comm a b).getLastD 0 else 0
theorem ver_asc : ∀ (suf pre : List Int), verGo pre suf = true → (∀ y, pre.getLast? = some y → ∀ x ∈ suf, y < x) ∧ suf.Pairwise (· < ·) ∧ ∀ x ∈ suf, 1 ≤ x ∧ x ≤ 9
 | [], _, _ => ⟨by simp, .nil, by simp⟩
 | x :: suf, pre, h => by
  unfold verGo at h
  simp only [Bool.and_eq_true] at h
  obtain ⟨⟨h1, h2⟩, h3⟩ := h
  obtain ⟨i1, i2, i3⟩ := ver_asc suf _ h3
  have i1' := i1 x (by simp)
  have hx : 1 ≤ x ∧ x ≤ 9 := by unfold inR at h1; simpa using h1
  refine ⟨?_, List.pairwise_cons.2 ⟨i1', i2⟩, ?_⟩
  ·intro y hy z hz
   rw [hy] at h2
   simp only [Bool.not_eq_true', decide_eq_false_iff_not] at h2
   rcases List.mem_cons.1 hz with rfl | hz
   ·omega
   ·have := i1' z hz; omega
  ·intro z hz
   rcases List.mem_cons.1 hz with rfl | hz
   ·exact hx
   ·exact i3 z hz
theorem areVer_asc {l : List Int} (h : areVer l = true) : l.Pairwise (· < ·) ∧ ∀ x ∈ l, 1 ≤ x ∧ x ≤ 9 := by
 unfold areVer at h
 simp only [Bool.and_eq_true] at h
 exact (ver_asc l [] h.1).2
def mxI (x y : Int) : Int := if y > x then y else x
theorem mx_last : ∀ (l : List Int) (d : Int), l.Pairwise (· < ·) → (∀ x ∈ l, d < x) → l.foldl mxI d = l.getLastD d
 | [], _, _, _ => rfl
 | x :: l, d, h1, h2 => by
  rw [List.foldl_cons, show mxI d x = x by unfold mxI; rw [if_pos (h2 x (by simp))]]
  rw [mx_last l x (List.pairwise_cons.1 h1).2 (List.pairwise_cons.1 h1).1]
  cases l <;> rfl
theorem comm_asc {a b : List Int} (h : areVer a = true) : (comm a b).Pairwise (· < ·) ∧ ∀ x ∈ comm a b, 1 ≤ x ∧ x ≤ 9 := by
 obtain ⟨h1, h2⟩ := areVer_asc h
 unfold comm
 rw [sel_idI]
 exact ⟨h1.filter _, fun x hx => h2 x (List.mem_filter.1 hx).1⟩
theorem comm_max {a b : List Int} (h : areVer a = true) : (comm a b).foldl mxI 0 = (comm a b).getLastD 0 := by
 obtain ⟨h1, h2⟩ := comm_asc (b := b) h
 exact mx_last _ _ h1 fun x hx => by have := h2 x hx; omega
theorem last_split {l : List Int} (h : l ≠ []) : l = l.dropLast ++ [l.getLastD 0] := by
 rw [List.getLastD_eq_getLast?, List.getLast?_eq_some_getLast h]
 exact (List.dropLast_concat_getLast h).symm
def helB (h : Hello) : List Int := if isHel h then (h.versions.length : Int) :: h.versions ++ encX h.exts else []
theorem isHel_ex {h : Hello} (q : isHel h = true) : areEx h.exts = true := by unfold isHel at q; simp only [Bool.and_eq_true] at q; exact q.2
theorem helB_len (h : Hello) : (helB h).length ≤ h.versions.length + 39 := by
 unfold helB
 split
 ·rename_i q
  have := encX_len (isHel_ex q)
  simp; omega
 ·simp
theorem asc_len : ∀ (l : List Int) (d : Int), d ≤ 9 → l.Pairwise (· < ·) → (∀ x ∈ l, d < x ∧ x ≤ 9) → (l.length : Int) ≤ 9 - d
 | [], d, h, _, _ => by simp; omega
 | x :: l, d, h, h1, h2 => by
  have hx := h2 x (by simp)
  have := asc_len l x hx.2 (List.pairwise_cons.1 h1).2 (fun y hy => ⟨(List.pairwise_cons.1 h1).1 y hy, (h2 y (by simp [hy])).2⟩)
  simp only [List.length_cons, Int.natCast_add, Int.natCast_one]; omega
theorem isHel_vl {h : Hello} (q : isHel h = true) : h.versions.length ≤ 9 := by
 unfold isHel at q; simp only [Bool.and_eq_true] at q
 obtain ⟨h1, h2⟩ := areVer_asc q.1
 have := asc_len h.versions 0 (by decide) h1 (fun x hx => by have := h2 x hx; omega)
 omega
theorem helB_small (h : Hello) : (helB h).length ≤ 48 := by
 cases q : isHel h with
 | true => have := isHel_vl q; have := helB_len h; omega
 | false => unfold helB; rw [q]; simp
theorem ok162 (h : Hello) (mh : h.Mid) {f0 f1 : Fl} (q0 : inFl f0 = true) (q1 : inFl f1 = true) : fix Tb md 162 [sHello (row fI h.versions) (row fExt h.exts) f0 f1] = some ⟨[R (row fI (helB h)) (.ow false)], [], none⟩ := by
 have mh' := mh
 unfold Hello.Mid at mh'
 have hvl := mh'.1
 have hxl := mh'.2.1
 have wh : ∀ y ∈ h.exts, y.body.length ≤ 1099511627776 := fun y hy => Nat.le_trans (show y.body.length ≤ 1073741824 from mh'.2.2 y hy) (by decide)
 have k1 := ok142 h (by omega) (by omega) wh (f0 := .sp 0 0) (f1 := .sp 0 1) rfl rfl
 cases hi : isHel h with
 | false =>
  rw [hi] at k1
  have hb : helB h = [] := by unfold helB; rw [hi]; rfl
  rw [hb]
  generalize hr : (⟨_, [], none⟩ : Ret) = r
  obtain ⟨dv, hdv⟩ := nm (row fI h.versions)
  obtain ⟨dx, hdx⟩ := nm (row fExt h.exts)
  rw [← hdv, ← hdx] at k1 ⊢
  refine fix_fn2 (fn := ir162) tb_162 rfl rfl (by decide) rfl ?_; intro Q hQ; simp only [shutArgs, shutS, List.map_cons, List.map_nil, ir162, shut_in q0, shut_in q1, List.head?_nil, reduceCtorEq, if_false, sExt, sHello, sAnswer, sEdit, sDeal, sBox, sDialed, sKnown]
  intro add sub mul arith eq ne lt le gt ge neg conv mn mx not beq len at' ln bd cut app allS isNil mks set o hP F ho
  rw [← ho] at k1
  cbv
  rw [k1]; cbv
  rw [show not false = true by rw [F.not]; rfl]; cbv
  rw [hQ]; cbv
  exact congrArg some hr
 | true =>
  rw [hi] at k1
  have hok := isHel_ex hi
  have hlen := encX_len hok
  have hb : helB h = (h.versions.length : Int) :: h.versions ++ encX h.exts := by unfold helB; rw [hi]; rfl
  rw [hb]
  obtain ⟨n, hn⟩ := nm ((h.versions.length : Int))
  obtain ⟨et, het⟩ := nm (row fI (n :: h.versions ++ encX h.exts))
  rw [← hn, ← het]
  generalize hr : (⟨_, [], none⟩ : Ret) = r
  obtain ⟨dv, hdv⟩ := nm (row fI h.versions)
  obtain ⟨dx, hdx⟩ := nm (row fExt h.exts)
  rw [← hdv, ← hdx] at k1 ⊢
  obtain ⟨ex, hex⟩ := nm (row fI (encX h.exts))
  refine fix_fn2 (fn := ir162) tb_162 rfl rfl (by decide) rfl ?_; intro Q hQ; simp only [shutArgs, shutS, List.map_cons, List.map_nil, ir162, shut_in q0, shut_in q1, List.head?_nil, reduceCtorEq, if_false, sExt, sHello, sAnswer, sEdit, sDeal, sBox, sDialed, sKnown]
  intro add sub mul arith eq ne lt le gt ge neg conv mn mx not beq len at' ln bd cut app allS isNil mks set o hP F ho
  rw [← ho] at k1
  have c2 : o 293 [R dx (.sp 0 0)] = some ⟨[R ex (.ow false), B true], [], none⟩ := by rw [ho, hdx, hex]; exact ok293 _ hok rfl
  have g1 : len dv = n := by rw [hn]; exact F.len_at hdv
  cbv
  rw [k1]; cbv
  rw [show not true = false by rw [F.not]; rfl]; cbv
  rw [c2]; cbv
  rw [g1]; cbv
  obtain ⟨e1, he1⟩ := nm (row fI (n :: h.versions))
  have p1 : app 1 [[.int .i64 n]] dv = some e1 := by rw [he1]; exact F.app' (f := fI) (k := 1) (e1 := [[.int .i64 n]]) (l1 := [n]) rfl hdv (fun _ => rfl) (by simp; omega)
  have p2 : app 1 e1 ex = some et := by rw [het]; exact F.app' (f := fI) (k := 1) he1 hex (fun _ => rfl) (by simp; omega)
  have p3 : allS dv = true := F.scal hdv (fun _ => rfl)
  have p4 : allS ex = true := F.scal hex (fun _ => rfl)
  rw [p3]; cbv
  rw [p1]; cbv
  rw [p4]; cbv
  rw [p2]; cbv
  rw [hQ]; cbv
  exact congrArg some hr
theorem ok256 (l b : List Int) (hl : l.length ≤ 1073741824) (hb' : b.length ≤ 1073741824) {f0 f1 : Fl} (h0 : inFl f0 = true) (h1 : inFl f1 = true) : fix Tb md 256 [R (row fI l) f0, R (row fI b) f1] = some ⟨[R (row fI (sel (hasI b) idI l)) (.ow false)], [], none⟩ := by
 obtain ⟨et, het⟩ := nm (row fI (sel (hasI b) idI l))
 rw [← het]
 generalize hr : (⟨_, [], none⟩ : Ret) = r
 obtain ⟨ea, hea⟩ := nm (row fI l)
 obtain ⟨eb, heb⟩ := nm (row fI b)
 rw [← hea, ← heb]
 refine fix_fn2 (fn := ir256) tb_256 rfl rfl (by decide) rfl ?_; intro Q hQ; simp only [shutArgs, shutS, List.map_cons, List.map_nil, ir256, shut_in h0, shut_in h1, List.head?_nil, reduceCtorEq, if_false, sExt, sHello, sAnswer, sEdit, sDeal, sBox, sDialed, sKnown]
 intro add sub mul arith eq ne lt le gt ge neg conv mn mx not beq len at' ln bd cut app allS isNil mks set o hP F ho
 have la := F.len_at hea
 cbv
 refine loop_ind2 hP (σ := List Int × List Int × List (List V) × Int) (fun s => [(0, R ea .sh), (1, R eb .sh), (4, R [] .nl), (5, R s.2.2.1 (.ow false)), (6, I s.2.2.2)]) (fun s => At s.2.2.2 s.2.1.length ∧ l = s.2.1 ++ s.1 ∧ s.2.2.1 = row fI (sel (hasI b) idI s.2.1)) (fun s => s.1.length) (l, [], [], 0) rfl ⟨rfl, rfl, rfl⟩ ?_
 intro c1 Q1 hc1 hQ1
 rintro ⟨suf, pre, eo, i⟩ ⟨hi, hl', hb⟩ ih
 simp only at hi hl' hb ih
 cbv
 cases suf with
 | nil =>
  rw [F.lt_f hi la (by simp [hl'])]; cbv
  rw [hQ1]; cbv
  rw [hQ]; cbv
  rw [← hr, het, hb, hl', List.append_nil]
 | cons x suf =>
  obtain ⟨ix, hix⟩ := nm (pre.length * 1)
  have hpre : pre.length ≤ 1073741824 := by rw [hl'] at hl; simp at hl; omega
  have hs : (sel (hasI b) idI pre).length ≤ pre.length := sel_len
  have hi' : At (add .i64 i 1) (pre ++ [x]).length := at_len (F.inc hi (by omega)) (by simp)
  have hl2 : l = (pre ++ [x]) ++ suf := by rw [hl']; simp
  have hmem : x ∈ l := by rw [hl']; simp
  have p0 : at' 1 ea i = some (ix, [.int .i64 x]) := by rw [hix]; exact F.get hi hea hl' (fun _ => rfl) (by decide)
  obtain ⟨v, hv⟩ := nm (hasI b x)
  have c2 : o 285 [R eb (.sp 0 0), I x] = some ⟨[B v], [], none⟩ := by rw [ho, hv, heb]; exact ok285 _ _ (by omega) rfl
  rw [F.lt_t hi la (by simp [hl'])]; cbv
  rw [p0]; cbv
  rw [c2]; cbv
  refine both (fun d => ?_) (fun d => ?_) <;> rw [d] <;> cbv
  ·rw [p0]; cbv
   rw [show allS [[.int .i64 x]] = true by rw [F.allS]; rfl]; cbv
   obtain ⟨eo', heo'⟩ := nm (row fI (sel (hasI b) idI pre ++ [idI x]))
   rw [show app 1 eo [[.int .i64 x]] = some eo' by rw [heo']; exact F.push hb (fun _ => rfl) rfl (by omega)]; cbv
   refine ih (suf, pre ++ [x], eo', add .i64 i 1) ⟨hi', hl2, by simp only; rw [heo', sel_t (by rw [← hv, d])]⟩ (by simp)
  ·refine ih (suf, pre ++ [x], eo, add .i64 i 1) ⟨hi', hl2, by simp only; rw [hb, sel_f (by rw [← hv, d])]⟩ (by simp)
theorem ok112 (a b : List Int) (ha : a.length ≤ 1073741824) (hb : b.length ≤ 1073741824) {f0 f1 : Fl} (q0 : inFl f0 = true) (q1 : inFl f1 = true) : fix Tb md 112 [R (row fI a) f0, R (row fI b) f1] = some ⟨[I (bestC a b)], [], none⟩ := by
 obtain ⟨u, hu⟩ := nm (areVer a)
 obtain ⟨v, hv⟩ := nm (areVer b)
 obtain ⟨l, hl⟩ := nm (comm a b)
 obtain ⟨T, hT⟩ := nm (bestC a b)
 rw [← hT]
 have hT' : T = if u && v then l.getLastD 0 else 0 := by rw [hT, hu, hv, hl]; rfl
 clear hT
 have hll : l.length ≤ 1073741824 := by rw [hl]; exact Nat.le_trans sel_len ha
 obtain ⟨pre, hpre⟩ := nm (l.dropLast)
 obtain ⟨x, hx⟩ := nm (l.getLastD 0)
 have hlx : l ≠ [] → l = pre ++ x :: [] := fun h => by rw [hpre, hx]; exact last_split h
 generalize hr : (⟨_, [], none⟩ : Ret) = r
 obtain ⟨ea, hea⟩ := nm (row fI a)
 obtain ⟨eb, heb⟩ := nm (row fI b)
 rw [← hea, ← heb]
 obtain ⟨el, hel⟩ := nm (row fI l)
 obtain ⟨ix, hix⟩ := nm (pre.length * 1)
 refine fix_fn2 (fn := ir112) tb_112 rfl rfl (by decide) rfl ?_; intro Q hQ; simp only [shutArgs, shutS, List.map_cons, List.map_nil, ir112, shut_in q0, shut_in q1, List.head?_nil, reduceCtorEq, if_false, sExt, sHello, sAnswer, sEdit, sDeal, sBox, sDialed, sKnown]
 intro add sub mul arith eq ne lt le gt ge neg conv mn mx not beq len at' ln bd cut app allS isNil mks set o hP F ho
 have ll := F.len_at hel
 have c1 : o 256 [R ea (.sp 0 0), R eb (.sp 1 0)] = some ⟨[R el (.ow false)], [], none⟩ := by rw [ho, hel, hl, hea, heb]; exact ok256 _ _ ha hb rfl rfl
 have c2 : o 257 [R ea (.sp 0 0)] = some ⟨[B u], [], none⟩ := by rw [ho, hu, hea]; exact ok257 _ (by omega) rfl
 have c3 : o 257 [R eb (.sp 0 0)] = some ⟨[B v], [], none⟩ := by rw [ho, hv, heb]; exact ok257 _ (by omega) rfl
 have g1 : eq (len el) 0 = decide (l.length = 0) := F.eq_n ll (k := 0) (m := 0) rfl
 cbv
 rw [c1]; cbv
 rw [c2]; cbv
 refine both (fun d1 => ?_) (fun d1 => ?_) <;> rw [d1] <;> cbv
 ·rw [hQ]; cbv
  rw [← hr, hT', F.not_t d1]; rfl
 rw [c3]; cbv
 refine both (fun d2 => ?_) (fun d2 => ?_) <;> rw [d2] <;> cbv
 ·rw [hQ]; cbv
  rw [← hr, hT', F.not_f d1, F.not_t d2]; rfl
 refine both (fun d3 => ?_) (fun d3 => ?_) <;> rw [d3] <;> cbv
 ·rw [hQ]; cbv
  rw [g1] at d3
  have hn : l = [] := List.length_eq_zero_iff.1 (by simpa using d3)
  rw [← hr, hT', F.not_f d1, F.not_f d2, hn]; rfl
 rw [g1] at d3
 have hn : l ≠ [] := fun h => by rw [h] at d3; simp at d3
 have hl2 := hlx hn
 have hs : At (sub .i64 (len el) 1) pre.length := by
  unfold At at ll ⊢
  rw [F.sub, ll, wrap64 (by omega) (by omega), hl2]; simp
 rw [show at' 1 el (sub .i64 (len el) 1) = some (ix, [.int .i64 x]) by rw [hix]; exact F.get hs hel hl2 (fun _ => rfl) (by decide)]; cbv
 rw [hQ]; cbv
 rw [← hr, hT', F.not_f d1, F.not_f d2, ← hx]; rfl
def notRes (e : Ext) : Bool := !resv e.tag
theorem ok306 (l : List Ext) (hl : l.length ≤ 1073741824) (w : ∀ y ∈ l, y.body.length ≤ 1099511627776) {f0 : Fl} (h0 : inFl f0 = true) : fix Tb md 306 [R (row fExt l) f0] = some ⟨[R (row fExt (sel notRes idE l)) (.ow false)], [], none⟩ := by
 obtain ⟨et, het⟩ := nm (row fExt (sel notRes idE l))
 rw [← het]
 generalize hr : (⟨_, [], none⟩ : Ret) = r
 obtain ⟨ea, hea⟩ := nm (row fExt l)
 rw [← hea]
 refine fix_fn2 (fn := ir306) tb_306 rfl rfl (by decide) rfl ?_; intro Q hQ; simp only [shutArgs, shutS, List.map_cons, List.map_nil, ir306, shut_in h0, List.head?_nil, reduceCtorEq, if_false, sExt, sHello, sAnswer, sEdit, sDeal, sBox, sDialed, sKnown]
 intro add sub mul arith eq ne lt le gt ge neg conv mn mx not beq len at' ln bd cut app allS isNil mks set o hP F ho
 have la := F.len_at hea
 cbv
 refine loop_ind2 hP (σ := List Ext × List Ext × List (List V) × Int) (fun s => [(0, R ea .sh), (2, R [] .nl), (3, R s.2.2.1 (.ow false)), (4, I s.2.2.2)]) (fun s => At s.2.2.2 s.2.1.length ∧ l = s.2.1 ++ s.1 ∧ s.2.2.1 = row fExt (sel notRes idE s.2.1)) (fun s => s.1.length) (l, [], [], 0) rfl ⟨rfl, rfl, rfl⟩ ?_
 intro c1 Q1 hc1 hQ1
 rintro ⟨suf, pre, eo, i⟩ ⟨hi, hl', hb⟩ ih
 simp only at hi hl' hb ih
 cbv
 cases suf with
 | nil =>
  rw [F.lt_f hi la (by simp [hl'])]; cbv
  rw [hQ1]; cbv
  rw [hQ]; cbv
  rw [← hr, het, hb, hl', List.append_nil]
 | cons x suf =>
  obtain ⟨ix, hix⟩ := nm (pre.length * 2)
  have hpre : pre.length ≤ 1073741824 := by rw [hl'] at hl; simp at hl; omega
  have hs : (sel notRes idE pre).length ≤ pre.length := sel_len
  have hi' : At (add .i64 i 1) (pre ++ [x]).length := at_len (F.inc hi (by omega)) (by simp)
  have hl2 : l = (pre ++ [x]) ++ suf := by rw [hl']; simp
  have hmem : x ∈ l := by rw [hl']; simp
  obtain ⟨e1, he1⟩ := nm (row fI x.body)
  have hx := w x hmem
  have p0 : at' 2 ea i = some (ix, [.int .i64 x.tag, .row () e1]) := by rw [hix, he1]; exact F.get hi hea hl' (fun _ => rfl) (by decide)
  obtain ⟨v, hv⟩ := nm (resv x.tag)
  have hP : notRes x = !v := by rw [hv]; rfl
  have c2 : o 301 [I x.tag] = some ⟨[B v], [], none⟩ := by rw [ho, hv]; exact ok301 ..
  rw [F.lt_t hi la (by simp [hl'])]; cbv
  rw [p0]; cbv
  rw [c2]; cbv
  refine both (fun d => ?_) (fun d => ?_) <;> rw [d] <;> cbv
  ·rw [p0]; cbv
   rw [p0]; cbv
   rw [show allS e1 = true from F.scal he1 (fun _ => rfl)]; cbv
   rw [F.app_nil he1 (fun _ => rfl) hx]; cbv
   rw [show allS [[.int .i64 x.tag, .row () e1]] = false by rw [F.allS]; rfl]; cbv
   obtain ⟨eo', heo'⟩ := nm (row fExt (sel notRes idE pre ++ [idE x]))
   rw [show app 2 eo [[.int .i64 x.tag, .row () e1]] = some eo' by rw [heo', he1]; exact F.push hb (fun _ => rfl) rfl (by omega)]; cbv
   refine ih (suf, pre ++ [x], eo', add .i64 i 1) ⟨hi', hl2, by simp only; rw [heo', sel_t (by rw [hP, F.not_t d]; rfl)]⟩ (by simp)
  ·refine ih (suf, pre ++ [x], eo, add .i64 i 1) ⟨hi', hl2, by simp only; rw [hb, sel_f (by rw [hP, F.not_f d]; rfl)]⟩ (by simp)
def tagIn (b : List Int) (e : Ext) : Bool := hasI b e.tag
theorem ok307 (l : List Ext) (b : List Int) (hl : l.length ≤ 1073741824) (hb' : b.length ≤ 1073741824) (w : ∀ y ∈ l, y.body.length ≤ 1099511627776) {f0 f1 : Fl} (h0 : inFl f0 = true) (h1 : inFl f1 = true) : fix Tb md 307 [R (row fExt l) f0, R (row fI b) f1] = some ⟨[R (row fExt (sel (tagIn b) idE l)) (.ow false)], [], none⟩ := by
 obtain ⟨et, het⟩ := nm (row fExt (sel (tagIn b) idE l))
 rw [← het]
 generalize hr : (⟨_, [], none⟩ : Ret) = r
 obtain ⟨ea, hea⟩ := nm (row fExt l)
 obtain ⟨eb, heb⟩ := nm (row fI b)
 rw [← hea, ← heb]
 refine fix_fn2 (fn := ir307) tb_307 rfl rfl (by decide) rfl ?_; intro Q hQ; simp only [shutArgs, shutS, List.map_cons, List.map_nil, ir307, shut_in h0, shut_in h1, List.head?_nil, reduceCtorEq, if_false, sExt, sHello, sAnswer, sEdit, sDeal, sBox, sDialed, sKnown]
 intro add sub mul arith eq ne lt le gt ge neg conv mn mx not beq len at' ln bd cut app allS isNil mks set o hP F ho
 have la := F.len_at hea
 cbv
 refine loop_ind2 hP (σ := List Ext × List Ext × List (List V) × Int) (fun s => [(0, R ea .sh), (1, R eb .sh), (4, R [] .nl), (5, R s.2.2.1 (.ow false)), (6, I s.2.2.2)]) (fun s => At s.2.2.2 s.2.1.length ∧ l = s.2.1 ++ s.1 ∧ s.2.2.1 = row fExt (sel (tagIn b) idE s.2.1)) (fun s => s.1.length) (l, [], [], 0) rfl ⟨rfl, rfl, rfl⟩ ?_
 intro c1 Q1 hc1 hQ1
 rintro ⟨suf, pre, eo, i⟩ ⟨hi, hl', hb⟩ ih
 simp only at hi hl' hb ih
 cbv
 cases suf with
 | nil =>
  rw [F.lt_f hi la (by simp [hl'])]; cbv
  rw [hQ1]; cbv
  rw [hQ]; cbv
  rw [← hr, het, hb, hl', List.append_nil]
 | cons x suf =>
  obtain ⟨ix, hix⟩ := nm (pre.length * 2)
  have hpre : pre.length ≤ 1073741824 := by rw [hl'] at hl; simp at hl; omega
  have hs : (sel (tagIn b) idE pre).length ≤ pre.length := sel_len
  have hi' : At (add .i64 i 1) (pre ++ [x]).length := at_len (F.inc hi (by omega)) (by simp)
  have hl2 : l = (pre ++ [x]) ++ suf := by rw [hl']; simp
  have hmem : x ∈ l := by rw [hl']; simp
  obtain ⟨e1, he1⟩ := nm (row fI x.body)
  have hx := w x hmem
  have p0 : at' 2 ea i = some (ix, [.int .i64 x.tag, .row () e1]) := by rw [hix, he1]; exact F.get hi hea hl' (fun _ => rfl) (by decide)
  obtain ⟨v, hv⟩ := nm (tagIn b x)
  have c2 : o 285 [R eb (.sp 0 0), I x.tag] = some ⟨[B v], [], none⟩ := by rw [ho, hv, heb]; exact ok285 _ _ (by omega) rfl
  rw [F.lt_t hi la (by simp [hl'])]; cbv
  rw [p0]; cbv
  rw [c2]; cbv
  refine both (fun d => ?_) (fun d => ?_) <;> rw [d] <;> cbv
  ·rw [p0]; cbv
   rw [p0]; cbv
   rw [show allS e1 = true from F.scal he1 (fun _ => rfl)]; cbv
   rw [F.app_nil he1 (fun _ => rfl) hx]; cbv
   rw [show allS [[.int .i64 x.tag, .row () e1]] = false by rw [F.allS]; rfl]; cbv
   obtain ⟨eo', heo'⟩ := nm (row fExt (sel (tagIn b) idE pre ++ [idE x]))
   rw [show app 2 eo [[.int .i64 x.tag, .row () e1]] = some eo' by rw [heo', he1]; exact F.push hb (fun _ => rfl) rfl (by omega)]; cbv
   refine ih (suf, pre ++ [x], eo', add .i64 i 1) ⟨hi', hl2, by simp only; rw [heo', sel_t (by rw [← hv, d])]⟩ (by simp)
  ·refine ih (suf, pre ++ [x], eo, add .i64 i 1) ⟨hi', hl2, by simp only; rw [hb, sel_f (by rw [← hv, d])]⟩ (by simp)
end Go.Vm
