/- What the functions answer. -/
import Derived.Test.YtokkeikhghanpaaL37FnsA
set_option maxHeartbeats 4000000
set_option maxRecDepth 10000
set_option linter.unusedVariables false
set_option linter.unusedSimpArgs false
namespace Go.Vm

/- impl.PassBox -/
theorem ok174r (b : Box) (h : Hello) (bd1 : b.drops.length ≤ 1073741824) (bs1 : b.strips.length ≤ 1073741824) (mh : h.Mid) {f0 f1 f2 f3 : Fl} (q0 : inFl f0 = true) (q1 : inFl f1 = true) (q2 : inFl f2 = true) (q3 : inFl f3 = true) (r : Ret) (rA : pbOk b h = true → (⟨[sHello (row fI h.versions) (row fExt (sel (stripE b.strips) idE h.exts)) (.ow false) (.ow false), B true], [], none⟩ : Ret) = r) (rC : pbOk b h = false → (⟨[sHello [] [] .nl .nl, B false], [], none⟩ : Ret) = r) : fix Tb md 174 [sBox b.limit (row fI b.drops) (row fI b.strips) b.lists f0 f1, sHello (row fI h.versions) (row fExt h.exts) f2 f3] = some r := by
  have mh' := mh
  unfold Hello.Mid at mh'
  have wh : ∀ y ∈ h.exts, y.body.length ≤ 1099511627776 := fun y hy => Nat.le_trans (show y.body.length ≤ 1073741824 from mh'.2.2 y hy) (by decide)
  obtain ⟨u1, hu1⟩ : ∃ y_, y_ = isBox b.limit b.drops b.strips := ⟨_, rfl⟩
  obtain ⟨u2, hu2⟩ : ∃ y_, y_ = isHel h := ⟨_, rfl⟩
  obtain ⟨u3, hu3⟩ : ∃ y_, y_ = (overL b h || h.exts.any (lost b)) := ⟨_, rfl⟩
  have hp : pbOk b h = (u1 && u2 && !u3) := by rw [hu1, hu2, hu3, pbOk]; simp [Bool.and_assoc]
  rw [hp] at rA rC
  have k3 : u1 = true → u2 = true → fix Tb md 310 [sBox b.limit (row fI b.drops) (row fI b.strips) b.lists (.sp 0 1) (.sp 0 2), sHello (row fI h.versions) (row fExt h.exts) (.sp 1 0) (.sp 1 1)] = some ⟨[B u3], [], none⟩ := fun e1 e2 => by
    rw [hu3]
    rw [hu1] at e1; rw [hu2] at e2
    refine ok310 b h ?_ ?_ (by omega) (by omega) (by omega) (by omega) rfl rfl rfl rfl
    · unfold isBox at e1; simp only [Bool.and_eq_true] at e1
      have := e1.1.1.1.1; unfold inR at this; simp at this; exact this.1
    · unfold isHel at e2; simp only [Bool.and_eq_true] at e2; exact e2.1
  obtain ⟨ed, hed⟩ : ∃ y_, y_ = row fI b.drops := ⟨_, rfl⟩
  obtain ⟨es, hes⟩ : ∃ y_, y_ = row fI b.strips := ⟨_, rfl⟩
  obtain ⟨ev, hev⟩ : ∃ y_, y_ = row fI h.versions := ⟨_, rfl⟩
  obtain ⟨ex, hex⟩ : ∃ y_, y_ = row fExt h.exts := ⟨_, rfl⟩
  obtain ⟨ez, hez⟩ : ∃ y_, y_ = row fExt (sel (stripE b.strips) idE h.exts) := ⟨_, rfl⟩
  rw [← hev, ← hez] at rA
  rw [← hed, ← hes, ← hev, ← hex] at k3 ⊢
  refine fix_fn2 (fn := ir174) tb_174 rfl rfl (by decide) rfl ?_; intro Q hQ; simp only [shutArgs, shutS, List.map_cons, List.map_nil, ir174, shut_in q0, shut_in q1, shut_in q2, shut_in q3, List.head?_nil, reduceCtorEq, if_false, sExt, sHello, sAnswer, sEdit, sDeal, sBox, sDialed, sKnown]
  intro add sub mul arith eq ne lt le gt ge neg conv mn mx not beq len at' ln bd cut app allS isNil mks set o hP F ho
  have c1 : o 69 [sBox b.limit ed es b.lists (.sp 0 1) (.sp 0 2)] = some ⟨[B u1], [], none⟩ := by rw [ho, hu1, hed, hes]; exact ok69 _ _ _ _ (by omega) (by omega) rfl rfl
  have c2 : o 113 [sHello ev ex (.sp 0 0) (.sp 0 1)] = some ⟨[B u2], [], none⟩ := by rw [ho, hu2, hev, hex]; exact ok113 _ (by omega) (by omega) wh rfl rfl
  have c3 : u1 = true → u2 = true → o 310 [sBox b.limit ed es b.lists (.sp 0 1) (.sp 0 2), sHello ev ex (.sp 1 0) (.sp 1 1)] = some ⟨[B u3], [], none⟩ := by rw [ho]; exact k3
  have c4 : o 299 [R ev (.sp 0 0)] = some ⟨[R ev (.ow false)], [], none⟩ := by rw [ho, hev]; exact ok299 _ (by omega) rfl
  have c5 : o 264 [R ex (.sp 0 0), ⟨.val, [⟨.fn 311 [.ptr () [.int .i64 b.limit, .row () ed, .row () es, .bool b.lists]], .sh⟩]⟩] = some ⟨[R ez (.ow false)], [], none⟩ := by
    rw [ho, hez, hex, hed, hes]
    exact ok264_1 311 rfl _ (fun n => !hasI b.strips n) h.exts mh'.2.1 wh (fun x _ => ok311 x.tag b (by omega)) rfl
  cbv
  rw [c1]; cbv
  refine both (fun d1 => ?_) (fun d1 => ?_) <;> rw [d1] <;> cbv
  · rw [hQ]; cbv
    exact congrArg some (rC (by rw [F.not_t d1]; rfl))
  rw [c2]; cbv
  refine both (fun d2 => ?_) (fun d2 => ?_) <;> rw [d2] <;> cbv
  · rw [hQ]; cbv
    exact congrArg some (rC (by rw [F.not_f d1, F.not_t d2]; rfl))
  have c3' := c3 (F.not_f d1) (F.not_f d2)
  rw [c3']; cbv
  refine both (fun d3 => ?_) (fun d3 => ?_) <;> rw [d3] <;> cbv
  · rw [hQ]; cbv
    exact congrArg some (rC (by rw [F.not_f d1, F.not_f d2, d3]; rfl))
  rw [c4]; cbv
  rw [c5]; cbv
  rw [hQ]; cbv
  exact congrArg some (rA (by rw [F.not_f d1, F.not_f d2, d3]; rfl))
theorem ok174 (b : Box) (h : Hello) (bd1 : b.drops.length ≤ 1073741824) (bs1 : b.strips.length ≤ 1073741824) (mh : h.Mid) {f0 f1 f2 f3 : Fl} (q0 : inFl f0 = true) (q1 : inFl f1 = true) (q2 : inFl f2 = true) (q3 : inFl f3 = true) :
    fix Tb md 174 [sBox b.limit (row fI b.drops) (row fI b.strips) b.lists f0 f1, sHello (row fI h.versions) (row fExt h.exts) f2 f3] = some ⟨[sHello (row fI (pbV b h).versions) (row fExt (pbV b h).exts) (.ow false) (.ow false), B (pbOk b h)], [], none⟩ ∨
    ((pbV b h).versions = [] ∧ (pbV b h).exts = [] ∧ fix Tb md 174 [sBox b.limit (row fI b.drops) (row fI b.strips) b.lists f0 f1, sHello (row fI h.versions) (row fExt h.exts) f2 f3] = some ⟨[sHello [] [] .nl .nl, B (pbOk b h)], [], none⟩) := by
  have hmain := fun r a c => ok174r b h bd1 bs1 mh q0 q1 q2 q3 r a c
  unfold pbV
  cases ho : pbOk b h with
  | false => exact .inr ⟨rfl, rfl, hmain _ (fun q => by rw [ho] at q; cases q) (fun _ => rfl)⟩
  | true => exact .inl (hmain _ (fun _ => rfl) (fun q => by rw [ho] at q; cases q))

/- impl.copyExts$1 -/
theorem ok347 (n : Int) : fix Tb md 347 [I n] = some ⟨[B true], [], none⟩ := by
  generalize hr : (⟨_, [], none⟩ : Ret) = r
  refine fix_fn2 (fn := ir347) tb_347 rfl rfl (by decide) rfl ?_; intro Q hQ; simp only [shutArgs, shutS, List.map_cons, List.map_nil, ir347, List.head?_nil, reduceCtorEq, if_false, sExt, sHello, sAnswer, sEdit, sDeal, sBox, sDialed, sKnown]
  intro add sub mul arith eq ne lt le gt ge neg conv mn mx not beq len at' ln bd cut app allS isNil mks set o hP F ho
  cbv
  rw [hQ]; cbv
  exact congrArg some hr

/- impl.copyExts -/
theorem ok266 (l : List Ext) (hl : l.length ≤ 1073741824) (w : ∀ y ∈ l, y.body.length ≤ 1099511627776) {f0 : Fl} (h0 : inFl f0 = true) : fix Tb md 266 [R (row fExt l) f0] = some ⟨[R (row fExt l) (.ow false)], [], none⟩ := by
  obtain ⟨ea, hea⟩ : ∃ y_, y_ = row fExt l := ⟨_, rfl⟩
  rw [← hea]
  generalize hr : (⟨_, [], none⟩ : Ret) = r
  refine fix_fn2 (fn := ir266) tb_266 rfl rfl (by decide) rfl ?_; intro Q hQ; simp only [shutArgs, shutS, List.map_cons, List.map_nil, ir266, shut_in h0, List.head?_nil, reduceCtorEq, if_false, sExt, sHello, sAnswer, sEdit, sDeal, sBox, sDialed, sKnown]
  intro add sub mul arith eq ne lt le gt ge neg conv mn mx not beq len at' ln bd cut app allS isNil mks set o hP F ho
  have c1 : o 264 [R ea (.sp 0 0), ⟨.val, [⟨.fn 347 [], .sh⟩]⟩] = some ⟨[R ea (.ow false)], [], none⟩ := by
    rw [ho, hea]
    have h := ok264_0 347 rfl (fun _ => true) l hl w (fun x _ => ok347 x.tag) (f0 := .sp 0 0) rfl
    rw [show sel (onTag fun _ => true) idE l = l by rw [sel_idE]; exact List.filter_eq_self.2 (fun _ _ => rfl)] at h
    exact h
  cbv
  rw [c1]; cbv
  rw [hQ]; cbv
  exact congrArg some hr

/- impl.copyHello -/
theorem ok261 (h : Hello) (mh : h.Mid) {f0 f1 : Fl} (q0 : inFl f0 = true) (q1 : inFl f1 = true) : fix Tb md 261 [sHello (row fI h.versions) (row fExt h.exts) f0 f1] = some ⟨[sHello (row fI h.versions) (row fExt h.exts) (.ow false) (.ow false)], [], none⟩ := by
  have mh' := mh
  unfold Hello.Mid at mh'
  obtain ⟨ev, hev⟩ : ∃ y_, y_ = row fI h.versions := ⟨_, rfl⟩
  obtain ⟨ex, hex⟩ : ∃ y_, y_ = row fExt h.exts := ⟨_, rfl⟩
  rw [← hev, ← hex]
  generalize hr : (⟨_, [], none⟩ : Ret) = r
  refine fix_fn2 (fn := ir261) tb_261 rfl rfl (by decide) rfl ?_; intro Q hQ; simp only [shutArgs, shutS, List.map_cons, List.map_nil, ir261, shut_in q0, shut_in q1, List.head?_nil, reduceCtorEq, if_false, sExt, sHello, sAnswer, sEdit, sDeal, sBox, sDialed, sKnown]
  intro add sub mul arith eq ne lt le gt ge neg conv mn mx not beq len at' ln bd cut app allS isNil mks set o hP F ho
  have c1 : o 266 [R ex (.sp 0 0)] = some ⟨[R ex (.ow false)], [], none⟩ := by rw [ho, hex]; exact ok266 _ mh'.2.1 (fun y hy => Nat.le_trans (show y.body.length ≤ 1073741824 from mh'.2.2 y hy) (by decide)) rfl
  cbv
  rw [show allS ev = true from F.scal hev (fun _ => rfl)]; cbv
  rw [F.app_nil hev (fun _ => rfl) (Nat.le_trans mh'.1 (by decide))]; cbv
  rw [c1]; cbv
  rw [hQ]; cbv
  exact congrArg some hr

/- impl.PassPath -/
theorem ok182r (path : List Box) (h : Hello) (pl : path.length ≤ 1073741824) (pm : ∀ y ∈ path, y.Mid) (mh : h.Mid) {f0 f1 f2 : Fl} (q0 : inFl f0 = true) (q1 : inFl f1 = true) (q2 : inFl f2 = true) (r : Ret) (rA : ∀ z, pp path h = (z, true) → (⟨[sHello (row fI z.versions) (row fExt z.exts) (.ow false) (.ow false), B true], [], none⟩ : Ret) = r) (rC : pp path h = (⟨[], []⟩, false) → (⟨[sHello [] [] .nl .nl, B false], [], none⟩ : Ret) = r) :
    fix Tb md 182 [R (row fBox path) f0, sHello (row fI h.versions) (row fExt h.exts) f1 f2] = some r := by
  have mh' := mh
  unfold Hello.Mid at mh'
  have wh : ∀ y ∈ h.exts, y.body.length ≤ 1099511627776 := fun y hy => Nat.le_trans (show y.body.length ≤ 1073741824 from mh'.2.2 y hy) (by decide)
  obtain ⟨T, hT⟩ : ∃ y_, y_ = ppGo path h := ⟨_, rfl⟩
  obtain ⟨u, hu⟩ : ∃ y_, y_ = isHel h := ⟨_, rfl⟩
  obtain ⟨k4, hk4⟩ : ∃ y_, y_ = decide (path.length ≤ 4) := ⟨_, rfl⟩
  have hp : pp path h = if (u && k4) = true then T else (⟨[], []⟩, false) := by rw [hu, hk4, hT]; rfl
  rw [hp] at rA rC
  clear hp
  obtain ⟨ep, hep⟩ : ∃ y_, y_ = row fBox path := ⟨_, rfl⟩
  obtain ⟨dv, hdv⟩ : ∃ y_, y_ = row fI h.versions := ⟨_, rfl⟩
  obtain ⟨dx, hdx⟩ : ∃ y_, y_ = row fExt h.exts := ⟨_, rfl⟩
  rw [← hep, ← hdv, ← hdx]
  refine fix_fn2 (fn := ir182) tb_182 rfl rfl (by decide) rfl ?_; intro Q hQ; simp only [shutArgs, shutS, List.map_cons, List.map_nil, ir182, shut_in q0, shut_in q1, shut_in q2, List.head?_nil, reduceCtorEq, if_false, sExt, sHello, sAnswer, sEdit, sDeal, sBox, sDialed, sKnown]
  intro add sub mul arith eq ne lt le gt ge neg conv mn mx not beq len at' ln bd cut app allS isNil mks set o hP F ho
  have lp := F.len_at hep
  have c1 : o 113 [sHello dv dx (.sp 0 0) (.sp 0 1)] = some ⟨[B u], [], none⟩ := by rw [ho, hu, hdv, hdx]; exact ok113 _ (by omega) (by omega) wh rfl rfl
  have g1 : gt (len ep) 4 = not k4 := by rw [F.gt_n lp (k := 4) (m := 4) rfl, F.not, hk4, Bool.eq_iff_iff]; simp only [decide_eq_true_eq, Bool.not_eq_true', decide_eq_false_iff_not]; omega
  have c2 : o 261 [sHello dv dx (.sp 0 0) (.sp 0 1)] = some ⟨[sHello dv dx (.ow false) (.ow false)], [], none⟩ := by rw [ho, hdv, hdx]; exact ok261 h mh rfl rfl
  cbv
  rw [c1]; cbv
  refine both (fun d1 => ?_) (fun d1 => ?_) <;> rw [d1] <;> cbv
  · rw [hQ]; cbv
    exact congrArg some (rC (by rw [F.not_t d1]; rfl))
  rw [g1]; cbv
  refine both (fun d2 => ?_) (fun d2 => ?_) <;> rw [d2] <;> cbv
  · rw [hQ]; cbv
    exact congrArg some (rC (by rw [F.not_t d2, Bool.and_false]; rfl))
  rw [F.not_f d1, F.not_f d2, Bool.true_and, if_pos rfl] at rA rC
  rw [c2]; cbv
  refine loop_ind2 hP (σ := List Box × List Box × Int × Option (Hello × List (List V) × List (List V))) (fun s => match s.2.2.2 with
      | none => [(0, R ep .sh), (1, sHello dv dx .sh .sh), (3, ⟨.ptr 43 0, []⟩), (4, ⟨.ptr 44 0, []⟩), (5, B false), (6, ⟨.ptr 46 0, []⟩), (7, B false), (8, I s.2.2.1), (43, ⟨.box (), [⟨.row () dv, .sh⟩, ⟨.row () dx, .sh⟩]⟩), (44, ⟨.box (), [⟨.row () [], .nl⟩, ⟨.row () [], .nl⟩]⟩), (46, ⟨.box (), [⟨.row () [], .nl⟩, ⟨.row () [], .nl⟩]⟩)]
      | some j => [(0, R ep .sh), (1, sHello dv dx .sh .sh), (3, ⟨.ptr 43 0, []⟩), (4, ⟨.ptr 44 0, []⟩), (5, B false), (6, ⟨.ptr 46 0, []⟩), (7, B true), (8, I s.2.2.1), (43, ⟨.box (), [⟨.row () dv, .sh⟩, ⟨.row () dx, .sh⟩]⟩), (44, ⟨.box (), [⟨.row () [], .nl⟩, ⟨.row () [], .nl⟩]⟩), (46, ⟨.box (), [⟨.row () j.2.1, .ow false⟩, ⟨.row () j.2.2, .ow false⟩]⟩)]) (fun s => At s.2.2.1 s.2.1.length ∧ path = s.2.1 ++ s.1 ∧ (match s.2.2.2 with | none => T = (⟨[], []⟩, false) | some j => ppGo s.1 j.1 = T ∧ j.1.Mid ∧ j.2.1 = row fI j.1.versions ∧ j.2.2 = row fExt j.1.exts)) (fun s => s.1.length) (path, [], 0, some (h, dv, dx)) rfl ⟨rfl, rfl, hT.symm, mh, hdv, hdx⟩ ?_
  intro c9 Q1 hc9 hQ1
  rintro ⟨suf, pre, i, e⟩ ⟨hi, hl', hz⟩ ih
  simp only at hi hl' hz ih
  cases e with
  | none =>
    cbv
    cases suf with
    | nil =>
      rw [F.lt_f hi lp (by simp [hl'])]; cbv
      rw [hQ1]; cbv
      rw [hQ]; cbv
      exact congrArg some (rC hz)
    | cons x suf =>
      rw [F.lt_t hi lp (by simp [hl'])]; cbv
      rw [hQ1]; cbv
      rw [hQ]; cbv
      exact congrArg some (rC hz)
  | some j =>
    obtain ⟨cur, ev, ex⟩ := j
    obtain ⟨z1, z2, z3, z4⟩ := hz
    simp only at z1 z2 z3 z4
    have z2' := z2
    unfold Hello.Mid at z2'
    cases suf with
    | nil =>
      cbv
      rw [F.lt_f hi lp (by simp [hl'])]; cbv
      rw [hQ1]; cbv
      rw [hQ]; cbv
      rw [z3, z4]
      exact congrArg some (rA cur (by rw [← z1]; rfl))
    | cons x suf =>
      obtain ⟨ix, hix⟩ : ∃ y_, y_ = pre.length * 4 := ⟨_, rfl⟩
      obtain ⟨e1, he1⟩ : ∃ y_, y_ = row fI x.drops := ⟨_, rfl⟩
      obtain ⟨e2, he2⟩ : ∃ y_, y_ = row fI x.strips := ⟨_, rfl⟩
      have hx := pm x (by rw [hl']; simp)
      unfold Box.Mid at hx
      have hi' : At (add .i64 i 1) (pre ++ [x]).length := at_len (F.inc hi (by rw [hl'] at pl; simp at pl; omega)) (by simp)
      have hl2 : path = (pre ++ [x]) ++ suf := by rw [hl']; simp
      have p0 : at' 4 ep i = some (ix, [.int .i64 x.limit, .row () e1, .row () e2, .bool x.lists]) := by rw [hix, he1, he2]; exact F.get hi hep hl' (fun _ => rfl) (by decide)
      cases hok : pbOk x cur with
      | true =>
        obtain ⟨nx, hnx⟩ : ∃ y_, y_ = row fExt (sel (stripE x.strips) idE cur.exts) := ⟨_, rfl⟩
        have hV : pbV x cur = ⟨cur.versions, sel (stripE x.strips) idE cur.exts⟩ := by rw [pbV, hok]; rfl
        have c3 : o 174 [sBox x.limit e1 e2 x.lists (.sp 0 1) (.sp 0 2), sHello ev ex (.sp 1 0) (.sp 1 1)] = some ⟨[sHello ev nx (.ow false) (.ow false), B true], [], none⟩ := by
          rw [ho, he1, he2, z3, z4, hnx]
          exact ok174r x cur (by omega) (by omega) z2 rfl rfl rfl rfl _ (fun _ => rfl) (fun q => by rw [hok] at q; cases q)
        cbv
        rw [F.lt_t hi lp (by simp [hl'])]; cbv
        rw [p0]; cbv
        rw [c3]; cbv
        refine ih (suf, pre ++ [x], add .i64 i 1, some (pbV x cur, ev, nx)) ⟨hi', hl2, ?_, pbV_mid z2, ?_, ?_⟩ (by simp)
        · simp only; rw [← z1, ppGo, hok, if_pos rfl]
        · simp only; rw [hV, z3]
        · simp only; rw [hV, hnx]
      | false =>
        have c3 : o 174 [sBox x.limit e1 e2 x.lists (.sp 0 1) (.sp 0 2), sHello ev ex (.sp 1 0) (.sp 1 1)] = some ⟨[sHello [] [] .nl .nl, B false], [], none⟩ := by
          rw [ho, he1, he2, z3, z4]
          exact ok174r x cur (by omega) (by omega) z2 rfl rfl rfl rfl _ (fun q => by rw [hok] at q; cases q) (fun _ => rfl)
        cbv
        rw [F.lt_t hi lp (by simp [hl'])]; cbv
        rw [p0]; cbv
        rw [c3]; cbv
        refine ih (suf, pre ++ [x], add .i64 i 1, none) ⟨hi', hl2, ?_⟩ (by simp)
        simp only; rw [← z1, ppGo, hok]; rfl
theorem ok182 (path : List Box) (h : Hello) (pl : path.length ≤ 1073741824) (pm : ∀ y ∈ path, y.Mid) (mh : h.Mid) {f0 f1 f2 : Fl} (q0 : inFl f0 = true) (q1 : inFl f1 = true) (q2 : inFl f2 = true) :
    fix Tb md 182 [R (row fBox path) f0, sHello (row fI h.versions) (row fExt h.exts) f1 f2] = some ⟨[sHello (row fI (ppV path h).versions) (row fExt (ppV path h).exts) (.ow false) (.ow false), B (ppOk path h)], [], none⟩ ∨
    ((ppV path h).versions = [] ∧ (ppV path h).exts = [] ∧ fix Tb md 182 [R (row fBox path) f0, sHello (row fI h.versions) (row fExt h.exts) f1 f2] = some ⟨[sHello [] [] .nl .nl, B (ppOk path h)], [], none⟩) := by
  have hmain := fun r a c => ok182r path h pl pm mh q0 q1 q2 r a c
  unfold ppV ppOk
  rcases hq : pp path h with ⟨z, k⟩
  rcases pp_cases path h with h1 | h1
  · rw [hq] at h1
    simp only at h1
    subst h1
    exact .inl (hmain _ (fun z' q => by rw [hq] at q; cases q; rfl) (fun q => by rw [hq] at q; cases q))
  · rw [hq] at h1; cases h1
    exact .inr ⟨rfl, rfl, hmain _ (fun z' q => by rw [hq] at q; cases q) (fun _ => rfl)⟩

/- impl.PlainHello -/
theorem ok77 (l : List Int) (hl : l.length ≤ 1099511627776) {f0 : Fl} (h0 : inFl f0 = true) : fix Tb md 77 [R (row fI l) f0] = some ⟨[sHello (row fI l) [] (.ow false) .nl], [], none⟩ := by
  refine fix_fn (fn := ir77) tb_77 rfl rfl (by decide) rfl ?_; simp only [shutArgs, shutS, List.map_cons, List.map_nil, ir77, shut_in h0, List.head?_nil, reduceCtorEq, if_false, sExt, sHello, sAnswer, sEdit, sDeal, sBox, sDialed, sKnown]
  generalize hr : (⟨_, [], none⟩ : Ret) = r
  obtain ⟨ea, hea⟩ : ∃ y_, y_ = row fI l := ⟨_, rfl⟩
  rw [← hea] at hr ⊢
  intro add sub mul arith eq ne lt le gt ge neg conv mn mx not beq len at' ln bd cut app allS isNil mks set o hP F ho
  cbv
  rw [show allS ea = true from F.scal hea (fun _ => rfl)]; cbv
  rw [F.app_nil hea (fun _ => rfl) hl]; cbv
  exact congrArg some hr

/- impl.LostVersions -/
theorem ok171 (path : List Box) (versions : List Int) (pl : path.length ≤ 1073741824) (pm : ∀ y ∈ path, y.Mid) (hv : versions.length ≤ 1073741824) {f0 f1 : Fl} (q0 : inFl f0 = true) (q1 : inFl f1 = true) : fix Tb md 171 [R (row fBox path) f0, R (row fI versions) f1] = some ⟨[R (row fI (lvs path versions)) (.ow false)], [], none⟩ := by
  obtain ⟨u, hu⟩ : ∃ y_, y_ = areVer versions := ⟨_, rfl⟩
  obtain ⟨l, hl0⟩ : ∃ y_, y_ = versions := ⟨_, rfl⟩
  obtain ⟨et, het⟩ : ∃ y_, y_ = row fI (lvs path versions) := ⟨_, rfl⟩
  rw [← het]
  have hT : et = row fI (if u = true then sel (deadV path) idI l else []) := by rw [het, hu, hl0]; rfl
  clear het
  generalize hr : (⟨_, [], none⟩ : Ret) = r
  obtain ⟨ep, hep⟩ : ∃ y_, y_ = row fBox path := ⟨_, rfl⟩
  obtain ⟨ev, hev⟩ : ∃ y_, y_ = row fI versions := ⟨_, rfl⟩
  rw [← hep, ← hev]
  rw [← hl0] at hv hev hu
  refine fix_fn2 (fn := ir171) tb_171 rfl rfl (by decide) rfl ?_; intro Q hQ; simp only [shutArgs, shutS, List.map_cons, List.map_nil, ir171, shut_in q0, shut_in q1, List.head?_nil, reduceCtorEq, if_false, sExt, sHello, sAnswer, sEdit, sDeal, sBox, sDialed, sKnown]
  intro add sub mul arith eq ne lt le gt ge neg conv mn mx not beq len at' ln bd cut app allS isNil mks set o hP F ho
  have lv := F.len_at hev
  have c1 : o 255 [R ev (.sp 0 0)] = some ⟨[B u], [], none⟩ := by rw [ho, hu, hev]; exact ok255 _ (by omega) rfl
  cbv
  rw [c1]; cbv
  refine both (fun d1 => ?_) (fun d1 => ?_) <;> rw [d1] <;> cbv
  · rw [hQ]; cbv
    rw [← hr, hT, F.not_t d1]; rfl
  have hT' : et = row fI (sel (deadV path) idI l) := by rw [hT, F.not_f d1, if_pos rfl]
  refine loop_ind2 hP (σ := List Int × List Int × List (List V) × Int × Option (Int × Bool × Option (List (List V) × List (List V)))) (fun s => match s.2.2.2.2 with
    | none => [(0, R ep .sh), (1, R ev .sh), (4, R [] .nl), (5, R s.2.2.1 (.ow false)), (15, R ev .sh), (16, I (len ev)), (17, I s.2.2.2.1)]
    | some (a, b, none) => [(0, R ep .sh), (1, R ev .sh), (4, R [] .nl), (5, R s.2.2.1 (.ow false)), (7, I a), (9, B b), (15, R ev .sh), (16, I (len ev)), (17, I s.2.2.2.1), (45, ⟨.box (), [⟨.row () [], .nl⟩, ⟨.row () [], .nl⟩]⟩)]
    | some (a, b, some (V, X)) => [(0, R ep .sh), (1, R ev .sh), (4, R [] .nl), (5, R s.2.2.1 (.ow false)), (7, I a), (9, B b), (15, R ev .sh), (16, I (len ev)), (17, I s.2.2.2.1), (45, ⟨.box (), [⟨.row () V, .ow false⟩, ⟨.row () X, .ow false⟩]⟩)])
    (fun s => At s.2.2.2.1 s.2.1.length ∧ l = s.2.1 ++ s.1 ∧ s.2.2.1 = row fI (sel (deadV path) idI s.2.1)) (fun s => s.1.length) (l, [], [], 0, none) rfl ⟨rfl, rfl, rfl⟩ ?_
  intro c9 Q1 hc9 hQ1
  rintro ⟨suf, pre, eo, i, j⟩ ⟨hi, hl', hb⟩ ih
  simp only at hi hl' hb ih
  rcases j with _ | ⟨ja, jb, _ | ⟨jV, jX⟩⟩
  all_goals
    cbv
    cases suf with
    | nil =>
      have hpp : l = pre := by rw [hl', List.append_nil]
      rw [F.lt_f hi lv (by simp [hl'])]; cbv
      rw [hQ1]; cbv
      rw [hQ]; cbv
      rw [← hr, hT', hb, hpp]
    | cons x suf =>
      have hk := ok182 path ⟨[x], []⟩ pl pm ⟨by simp, by simp, by simp⟩ (f0 := .sp 0 0) (f1 := .sp 1 0) (f2 := .nl) rfl rfl rfl
      obtain ⟨w, hw⟩ : ∃ y_, y_ = ppOk path ⟨[x], []⟩ := ⟨_, rfl⟩
      obtain ⟨V1, hV1⟩ : ∃ y_, y_ = row fI (ppV path ⟨[x], []⟩).versions := ⟨_, rfl⟩
      obtain ⟨X1, hX1⟩ : ∃ y_, y_ = row fExt (ppV path ⟨[x], []⟩).exts := ⟨_, rfl⟩
      rw [← hep, ← hw, ← hV1, ← hX1] at hk
      have hk := hk
      obtain ⟨ix, hix⟩ : ∃ y_, y_ = pre.length * 1 := ⟨_, rfl⟩
      have hpl : pre.length ≤ 1073741824 := by rw [hl'] at hv; simp at hv; omega
      have p0 : at' 1 ev i = some (ix, [.int .i64 x]) := by rw [hix]; exact F.get hi hev hl' (fun _ => rfl) (by decide)
      have hi' : At (add .i64 i 1) (pre ++ [x]).length := at_len (F.inc hi (by omega)) (by simp)
      have hl2 : l = (pre ++ [x]) ++ suf := by rw [hl']; simp
      have hs : (sel (deadV path) idI pre).length ≤ pre.length := sel_len
      have hPx : deadV path x = !w := by rw [hw]; rfl
      have c2 : o 77 [R [[.int .i64 x]] (.sp 0 0)] = some ⟨[sHello [[.int .i64 x]] [] (.ow false) .nl], [], none⟩ := by rw [ho]; exact ok77 [x] (by simp) rfl
      obtain ⟨eo', heo'⟩ : ∃ y_, y_ = row fI (sel (deadV path) idI pre ++ [idI x]) := ⟨_, rfl⟩
      have p1 : app 1 eo [[.int .i64 x]] = some eo' := by rw [heo']; exact F.push (k := 1) (f := fI) (l := sel (deadV path) idI pre) (x := idI x) hb (fun _ => rfl) rfl (by omega)
      have p2 : allS [[.int .i64 x]] = true := by rw [F.allS]; rfl
      rw [F.lt_t hi lv (by simp [hl'])]; cbv
      rw [p0]; cbv
      rw [c2]; cbv
      rcases hk with hk | ⟨n1, n2, hk⟩
      · have c3 : o 182 [R ep (.sp 0 0), sHello [[.int .i64 x]] [] (.sp 1 0) .nl] = some ⟨[sHello V1 X1 (.ow false) (.ow false), B w], [], none⟩ := by rw [ho]; exact hk
        rw [c3]; cbv
        refine both (fun d2 => ?_) (fun d2 => ?_) <;> rw [d2] <;> cbv
        · rw [p2]; cbv
          rw [p1]; cbv
          refine ih (suf, pre ++ [x], eo', add .i64 i 1, some (x, w, some (V1, X1))) ⟨hi', hl2, ?_⟩ (by simp)
          simp only
          rw [sel_t (by rw [hPx, F.not_t d2]; rfl)]; exact heo'
        · refine ih (suf, pre ++ [x], eo, add .i64 i 1, some (x, w, some (V1, X1))) ⟨hi', hl2, ?_⟩ (by simp)
          simp only
          rw [sel_f (by rw [hPx, F.not_f d2]; rfl)]; exact hb
      · have c3 : o 182 [R ep (.sp 0 0), sHello [[.int .i64 x]] [] (.sp 1 0) .nl] = some ⟨[sHello [] [] .nl .nl, B w], [], none⟩ := by rw [ho]; exact hk
        rw [c3]; cbv
        refine both (fun d2 => ?_) (fun d2 => ?_) <;> rw [d2] <;> cbv
        · rw [p2]; cbv
          rw [p1]; cbv
          refine ih (suf, pre ++ [x], eo', add .i64 i 1, some (x, w, none)) ⟨hi', hl2, ?_⟩ (by simp)
          simp only
          rw [sel_t (by rw [hPx, F.not_t d2]; rfl)]; exact heo'
        · refine ih (suf, pre ++ [x], eo, add .i64 i 1, some (x, w, none)) ⟨hi', hl2, ?_⟩ (by simp)
          simp only
          rw [sel_f (by rw [hPx, F.not_f d2]; rfl)]; exact hb

/- laws.FnExactLostVersions -/
theorem law37 (path : List Box) (wpath : path.length ≤ 9223372036854775807 ∧ ∀ y ∈ path, y.Fits) (versions : List Int) (wversions : versions.length ≤ 9223372036854775807 ∧ ∀ y ∈ versions, Int64 y) :
    fix Tb md 37 [R (row fBox path) (.sp 0 0), R (row fI versions) (.sp 1 0)] = some ⟨[B true], [], none⟩ := by
  generalize hr : (⟨_, [], none⟩ : Ret) = r
  obtain ⟨e1, he1⟩ : ∃ y_, y_ = row fBox path := ⟨_, rfl⟩
  obtain ⟨e2, he2⟩ : ∃ y_, y_ = row fI versions := ⟨_, rfl⟩
  rw [← he1, ← he2]
  obtain ⟨v1, hv1⟩ : ∃ y_, y_ = szL szBox path 1048576 := ⟨_, rfl⟩
  have u1 : v1 ≤ 1048576 := by rw [hv1]; exact (Sz.list szBox_Sz path).up (by decide)
  have s1 := fun q : 0 ≤ v1 => (Sz.list szBox_Sz path).ok 1048576 (by decide) (hv1 ▸ q)
  obtain ⟨w, hw⟩ : ∃ y_, y_ = lvs path versions := ⟨_, rfl⟩
  refine fix_fn2 (fn := ir37) tb_37 rfl rfl (by decide) rfl ?_; intro Q hQ; simp only [shutArgs, shutS, List.map_cons, List.map_nil, ir37, List.head?_nil, reduceCtorEq, if_false, sExt, sHello, sAnswer, sEdit, sDeal, sBox, sDialed, sKnown, shut_in (f := .sp 0 0) rfl, shut_in (f := .sp 1 0) rfl]
  intro add sub mul arith eq ne lt le gt ge neg conv mn mx not beq len at' ln bd cut app allS isNil mks set o hP F ho
  have le2 := F.len_at he2
  have b1 : o 101 [R e1 (.sp 0 0), I 1048576] = some ⟨[I v1], [], none⟩ := by rw [ho, hv1, he1]; exact ok101 path _ wpath (by decide) (by decide) rfl 
  cbv
  refine both (fun dversions => ?_) (fun dversions => ?_) <;> rw [dversions] <;> cbv
  · rw [hQ]; cbv; exact congrArg some hr
  have tversions : versions.length ≤ 1048576 := by unfold At at le2; simp only [F.gt, le2, decide_eq_false_iff_not] at dversions; omega
  rw [b1]; cbv
  refine both (fun d1 => ?_) (fun d1 => ?_) <;> rw [d1] <;> cbv
  · rw [hQ]; cbv; exact congrArg some hr
  have p1 : 0 ≤ v1 := by simp only [F.lt, decide_eq_false_iff_not] at d1; omega
  have tpath := s1 p1
  have tpathm : path.length ≤ 1073741824 ∧ ∀ y ∈ path, y.Mid := ⟨Nat.le_trans tpath.1 (by decide), fun y hy => (tpath.2 y hy).mid⟩
  have rpath := tpath
  have kpath : o 103 [R e1 (.sp 0 0)] = some ⟨[R e1 (.ow false)], [], none⟩ := by rw [ho, he1]; exact ok103 path tpathm rfl 
  have qpath : o 105 [R e1 (.sp 0 0), R e1 (.sp 1 0)] = some ⟨[B true], [], none⟩ := by rw [ho, he1]; exact ok105 path tpathm rfl  rfl 
  have kversions : o 76 [R e2 (.sp 0 0)] = some ⟨[R e2 (.ow false)], [], none⟩ := by rw [ho, he2]; exact ok76 versions (show versions.length ≤ 1099511627776 by omega) rfl 
  have qversions : o 79 [R e2 (.sp 0 0), R e2 (.sp 1 0)] = some ⟨[B true], [], none⟩ := by rw [ho, he2]; exact ok79t versions (show versions.length ≤ 1099511627776 by omega) rfl  rfl 
  have wm : w.length ≤ 1073741824 := by rw [hw]; exact Nat.le_trans lvs_len (by omega)
  obtain ⟨g0, hg0⟩ : ∃ y_, y_ = row fI w := ⟨_, rfl⟩
  obtain ⟨h0, hh0⟩ : ∃ y_, y_ = row fI (mI w 1) := ⟨_, rfl⟩
  obtain ⟨zz, hzz⟩ : ∃ y_, y_ = 1 + (w.length : Int) := ⟨_, rfl⟩
  have lr : Lim 1 (w.length) := Lim.of1 (by have := wm; omega)
  have l2 : lt zz 0 = false := by rw [F.lt, hzz]; simp; omega
  have l3 : ne zz zz = false := F.ne_f rfl
  have a0 : AtK 1 1 0 := AtK.zero
  have y0 := cBoxS_small tpath
  have y1 := tversions
  have lk : Lim 1 (0 + cBoxS path + versions.length) := Lim.of1 (by omega)
  obtain ⟨z1, hz1⟩ : ∃ y_, y_ = 1 + (cBoxS path : Int) := ⟨_, rfl⟩
  have a1 : AtK z1 1 (0 + cBoxS path) := hz1 ▸ a0.plus
  have v1m : Lim 1 (cBoxS path) := a0.lim lk (by omega)
  obtain ⟨x0_0, hx0_0⟩ : ∃ y_, y_ = row fBox (mBoxS path 1) := ⟨_, rfl⟩
  have n1 : o 1172 [R e1 (.mp 0), I 1] = some ⟨[I z1], [.row () x0_0], none⟩ := by rw [ho, hz1, he1, hx0_0]; exact ok1172 _ _ v1m (Nat.le_trans tpathm.1 (by decide)) (fun y hy => Nat.le_trans ((tpathm.2 y hy).1) (by decide)) (fun y hy => Nat.le_trans ((tpathm.2 y hy).2) (by decide))
  obtain ⟨z2, hz2⟩ : ∃ y_, y_ = z1 + (versions.length : Int) := ⟨_, rfl⟩
  have a2 : AtK z2 1 (0 + cBoxS path + versions.length) := hz2 ▸ a1.plus
  have v2m : Lim z1 (versions.length) := a1.lim lk (by omega)
  obtain ⟨x1_0, hx1_0⟩ : ∃ y_, y_ = row fI (mI versions z1) := ⟨_, rfl⟩
  have n2 : o 1080 [R e2 (.mp 0), I z1] = some ⟨[I z2], [.row () x1_0], none⟩ := by rw [ho, hz2, he2, hx1_0]; exact ok1080 _ _ v2m (by omega)
  have l1 : lt z2 0 = false := by rw [F.lt]; have := a2.same; simp; omega
  have hs : fix Tb md 170 [R (row fBox path) (.sp 0 0), R (row fI versions) (.sp 1 0)] = some ⟨[R (row fI w) (.ow false)], [], none⟩ := by rw [hw]; exact ok170 path versions tpathm.1 tpathm.2 (by omega) rfl rfl
  have hi : fix Tb md 171 [R (row fBox path) (.sp 0 0), R (row fI versions) (.sp 1 0)] = some ⟨[R (row fI w) (.ow false)], [], none⟩ := by rw [hw]; exact ok171 path versions tpathm.1 tpathm.2 (by omega) rfl rfl
  have m1 : o 170 [R e1 (.sp 0 0), R e2 (.sp 1 0)] = some ⟨[R g0 (.ow false)], [], none⟩ := by rw [ho, he1, he2]; simp only [hg0]; exact hs
  have m2 : o 171 [R e1 (.sp 0 0), R e2 (.sp 1 0)] = some ⟨[R g0 (.ow false)], [], none⟩ := by rw [ho, he1, he2]; simp only [hg0]; exact hi
  have r1 : o 79 [R g0 (.sp 0 0), R g0 (.sp 1 0)] = some ⟨[B true], [], none⟩ := by
    have h := ok79t w (by omega) (f0 := (.sp 0 0)) (f1 := (.sp 1 0)) rfl rfl 
    rw [ho]
    try simp only [hg0]
    exact h
  have r2 : o 1080 [R g0 (.mp 0), I 1] = some ⟨[I zz], [.row () h0], none⟩ := by
    have h := ok1080 w 1 lr (by omega)
    rw [ho, hzz]
    try simp only [hg0, hh0]
    exact h
  have r3 : o 125 [R h0 (.sp 0 0), I 1] = some ⟨[I zz], [], none⟩ := by
    have h := ok125 w 1 lr (by omega) (f0 := (.sp 0 0)) rfl
    rw [ho, hzz]
    try simp only [hh0]
    exact h
  try (rw [kpath]; cbv)
  try (rw [kversions]; cbv)
  try (rw [m1]; cbv)
  try (rw [kpath]; cbv)
  try (rw [kversions]; cbv)
  try (rw [m2]; cbv)
  try (rw [r1]; cbv)
  try (rw [show not true = false by rw [F.not]; rfl]; cbv)
  try (rw [kpath]; cbv)
  try (rw [qpath]; cbv)
  try (rw [show not true = false by rw [F.not]; rfl]; cbv)
  try (rw [kversions]; cbv)
  try (rw [qversions]; cbv)
  try (rw [show not true = false by rw [F.not]; rfl]; cbv)
  try (rw [n1]; cbv)
  try (rw [n2]; cbv)
  try (rw [l1]; cbv)
  try (rw [r1]; cbv)
  try (rw [show not true = false by rw [F.not]; rfl]; cbv)
  try (rw [r2]; cbv)
  try (rw [r3]; cbv)
  try (rw [l2]; cbv)
  try (rw [l3]; cbv)
  try (rw [kpath]; cbv)
  try (rw [kversions]; cbv)
  try (rw [m2]; cbv)
  try (rw [r1]; cbv)
  try (rw [show not true = false by rw [F.not]; rfl]; cbv)
  try (rw [r3]; cbv)
  try (rw [l2]; cbv)
  try (rw [l3]; cbv)
  repeat' (first | (rw [kpath]; cbv) | (rw [qpath]; cbv) | (rw [kversions]; cbv) | (rw [qversions]; cbv) | (rw [m1]; cbv) | (rw [m2]; cbv) | (rw [r1]; cbv) | (rw [n1]; cbv) | (rw [n2]; cbv) | (rw [r2]; cbv) | (rw [r3]; cbv) | (rw [l1]; cbv) | (rw [l2]; cbv) | (rw [l3]; cbv) | (rw [F.ne_f rfl]; cbv) | (rw [show not true = false by rw [F.not]; rfl]; cbv) | (rw [hQ]; cbv; exact congrArg some hr))
theorem ans37 : Answers Tb md 37 [(false, [.row [.int .i64, .row [.int .i64], .row [.int .i64], .bool]]), (false, [.row [.int .i64]])] := answers_of (by
  intro vs h_
  obtain ⟨_, _, rfl, h1_, h_⟩ := fitL_cons h_
  cases fitL_nil h_
  obtain ⟨path, rfl, wpath⟩ := fit_row (fun _ => fitL_Box) h1_
  intro vs h_
  obtain ⟨versions, rfl, wversions⟩ := fitL_R h_
  exact law37 path wpath versions wversions)

end Go.Vm
