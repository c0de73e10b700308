/- What the functions answer. -/
import Derived.Test.YtokkeikhghanpaaL44FnsA
set_option maxHeartbeats 4000000
set_option maxRecDepth 10000
set_option linter.unusedVariables false
set_option linter.unusedSimpArgs false
namespace Go.Vm

/- spec.PassPath -/
theorem ok196r (path : List Box) (h : Hello) (pl : path.length ≤ 1073741824) (pm : ∀ y ∈ path, y.Mid) (mh : h.Mid) {f0 f1 f2 : Fl} (q0 : inFl f0 = true) (q1 : inFl f1 = true) (q2 : inFl f2 = true) (r : Ret) (rA : ∀ z, (path = [] ∨ z.exts ≠ []) → pp path h = (z, true) → (⟨[sHello (row fI z.versions) (row fExt z.exts) (.ow false) (.ow false), B true], [], none⟩ : Ret) = r) (rB : ∀ z, z.exts = [] ∧ path ≠ [] → pp path h = (z, true) → (⟨[sHello (row fI z.versions) [] (.ow false) .nl, B true], [], none⟩ : Ret) = r) (rC : pp path h = (⟨[], []⟩, false) → (⟨[sHello [] [] .nl .nl, B false], [], none⟩ : Ret) = r) :
    fix Tb md 196 [R (row fBox path) f0, sHello (row fI h.versions) (row fExt h.exts) f1 f2] = some r := by
  have mh' := mh
  unfold Hello.Mid at mh'
  have wh : ∀ y ∈ h.exts, y.body.length ≤ 1099511627776 := fun y hy => Nat.le_trans (show y.body.length ≤ 1073741824 from mh'.2.2 y hy) (by decide)
  obtain ⟨T, hT⟩ : ∃ y_, y_ = ppGo path h := ⟨_, rfl⟩
  obtain ⟨u, hu⟩ : ∃ y_, y_ = isHel h := ⟨_, rfl⟩
  obtain ⟨k4, hk4⟩ : ∃ y_, y_ = decide (path.length ≤ 4) := ⟨_, rfl⟩
  have hp : pp path h = if (u && k4) = true then T else (⟨[], []⟩, false) := by rw [hu, hk4, hT]; rfl
  rw [hp] at rA rB rC
  clear hp
  obtain ⟨ep, hep⟩ : ∃ y_, y_ = row fBox path := ⟨_, rfl⟩
  obtain ⟨dv, hdv⟩ : ∃ y_, y_ = row fI h.versions := ⟨_, rfl⟩
  obtain ⟨dx, hdx⟩ : ∃ y_, y_ = row fExt h.exts := ⟨_, rfl⟩
  rw [← hep, ← hdv, ← hdx]
  refine fix_fn2 (fn := ir196) tb_196 rfl rfl (by decide) rfl ?_; intro Q hQ; simp only [shutArgs, shutS, List.map_cons, List.map_nil, ir196, shut_in q0, shut_in q1, shut_in q2, List.head?_nil, reduceCtorEq, if_false, sExt, sHello, sAnswer, sEdit, sDeal, sBox, sDialed, sKnown]
  intro add sub mul arith eq ne lt le gt ge neg conv mn mx not beq len at' ln bd cut app allS isNil mks set o hP F ho
  have lp := F.len_at hep
  have c1 : o 142 [sHello dv dx (.sp 0 0) (.sp 0 1)] = some ⟨[B u], [], none⟩ := by rw [ho, hu, hdv, hdx]; exact ok142 _ (by omega) (by omega) wh rfl rfl
  have g1 : gt (len ep) 4 = not k4 := by rw [F.gt_n lp (k := 4) (m := 4) rfl, F.not, hk4, Bool.eq_iff_iff]; simp only [decide_eq_true_eq, Bool.not_eq_true', decide_eq_false_iff_not]; omega
  have c2 : o 279 [sHello dv dx (.sp 0 0) (.sp 0 1)] = some ⟨[sHello dv dx (.ow false) (.ow false)], [], none⟩ := by rw [ho, hdv, hdx]; exact ok279 h mh rfl rfl
  have nt : not false = true := by rw [F.not]; rfl
  have nf : not true = false := by rw [F.not]; rfl
  cbv
  rw [g1]; cbv
  refine both (fun d2 => ?_) (fun d2 => ?_) <;> rw [d2] <;> cbv
  · rw [hQ]; cbv
    exact congrArg some (rC (by rw [F.not_t d2, Bool.and_false]; rfl))
  rw [c1]; cbv
  refine both (fun d1 => ?_) (fun d1 => ?_) <;> rw [d1] <;> cbv
  · rw [hQ]; cbv
    exact congrArg some (rC (by rw [F.not_t d1]; rfl))
  rw [F.not_f d1, F.not_f d2, Bool.true_and, if_pos rfl] at rA rB rC
  rw [c2]; cbv
  refine loop_ind2 hP (σ := List Box × List Box × Int × Hello × List (List V) × Option (List (List V)) × Option Unit) (fun s => match s.2.2.2.2.2.1, s.2.2.2.2.2.2 with
      | none, none => [(0, R ep .sh), (1, sHello dv dx .sh .sh), (3, ⟨.ptr 44 0, []⟩), (4, ⟨.ptr 45 0, []⟩), (5, B false), (6, ⟨.ptr 47 0, []⟩), (7, I s.2.2.1), (44, ⟨.box (), [⟨.row () dv, .sh⟩, ⟨.row () dx, .sh⟩]⟩), (45, ⟨.box (), [⟨.row () [], .nl⟩, ⟨.row () [], .nl⟩]⟩), (47, ⟨.box (), [⟨.row () s.2.2.2.2.1, .ow false⟩, ⟨.row () [], .nl⟩]⟩)]
      | none, some _ => [(0, R ep .sh), (1, sHello dv dx .sh .sh), (3, ⟨.ptr 44 0, []⟩), (4, ⟨.ptr 45 0, []⟩), (5, B false), (6, ⟨.ptr 47 0, []⟩), (7, I s.2.2.1), (8, ⟨.ptr 49 0, []⟩), (9, B true), (44, ⟨.box (), [⟨.row () dv, .sh⟩, ⟨.row () dx, .sh⟩]⟩), (45, ⟨.box (), [⟨.row () [], .nl⟩, ⟨.row () [], .nl⟩]⟩), (47, ⟨.box (), [⟨.row () s.2.2.2.2.1, .ow false⟩, ⟨.row () [], .nl⟩]⟩), (49, ⟨.box (), [⟨.row () s.2.2.2.2.1, .fr⟩, ⟨.row () [], .nl⟩]⟩)]
      | some ex, none => [(0, R ep .sh), (1, sHello dv dx .sh .sh), (3, ⟨.ptr 44 0, []⟩), (4, ⟨.ptr 45 0, []⟩), (5, B false), (6, ⟨.ptr 47 0, []⟩), (7, I s.2.2.1), (44, ⟨.box (), [⟨.row () dv, .sh⟩, ⟨.row () dx, .sh⟩]⟩), (45, ⟨.box (), [⟨.row () [], .nl⟩, ⟨.row () [], .nl⟩]⟩), (47, ⟨.box (), [⟨.row () s.2.2.2.2.1, .ow false⟩, ⟨.row () ex, .ow false⟩]⟩)]
      | some ex, some _ => [(0, R ep .sh), (1, sHello dv dx .sh .sh), (3, ⟨.ptr 44 0, []⟩), (4, ⟨.ptr 45 0, []⟩), (5, B false), (6, ⟨.ptr 47 0, []⟩), (7, I s.2.2.1), (8, ⟨.ptr 49 0, []⟩), (9, B true), (44, ⟨.box (), [⟨.row () dv, .sh⟩, ⟨.row () dx, .sh⟩]⟩), (45, ⟨.box (), [⟨.row () [], .nl⟩, ⟨.row () [], .nl⟩]⟩), (47, ⟨.box (), [⟨.row () s.2.2.2.2.1, .ow false⟩, ⟨.row () ex, .ow false⟩]⟩), (49, ⟨.box (), [⟨.row () s.2.2.2.2.1, .fr⟩, ⟨.row () ex, .fr⟩]⟩)]) (fun s => At s.2.2.1 s.2.1.length ∧ path = s.2.1 ++ s.1 ∧ ppGo s.1 s.2.2.2.1 = T ∧ s.2.2.2.1.Mid ∧ s.2.2.2.2.1 = row fI s.2.2.2.1.versions ∧ (match s.2.2.2.2.2.1 with | none => s.2.2.2.1.exts = [] ∧ s.2.1 ≠ [] | some ex => ex = row fExt s.2.2.2.1.exts ∧ (s.2.1 = [] ∨ s.2.2.2.1.exts ≠ []))) (fun s => s.1.length) (path, [], 0, h, dv, some dx, none) rfl ⟨rfl, rfl, hT.symm, mh, hdv, hdx, .inl rfl⟩ ?_
  intro c9 Q1 hc9 hQ1
  rintro ⟨suf, pre, i, cur, ev, e, j⟩ ⟨hi, hl', z1, z2, z3, z4⟩ ih
  simp only at hi hl' z1 z2 z3 z4 ih
  have z2' := z2
  unfold Hello.Mid at z2'
  cases e with
  | none =>
    cases j with
    | none =>
      cases suf with
      | nil =>
        cbv
        rw [F.lt_f hi lp (by simp [hl'])]; cbv
        rw [hQ1]; cbv
        rw [hQ]; cbv
        have hpp : path = pre := by rw [hl', List.append_nil]
        rw [z3]; exact congrArg some (rB cur (by rw [hpp]; exact z4) (by rw [← z1]; rfl))
      | cons x suf =>
        obtain ⟨ix, hix⟩ : ∃ y_, y_ = pre.length * 4 := ⟨_, rfl⟩
        obtain ⟨e1, he1⟩ : ∃ y_, y_ = row fI x.drops := ⟨_, rfl⟩
        obtain ⟨e2, he2⟩ : ∃ y_, y_ = row fI x.strips := ⟨_, rfl⟩
        have hx := pm x (by rw [hl']; simp)
        unfold Box.Mid at hx
        have hi' : At (add .i64 i 1) (pre ++ [x]).length := at_len (F.inc hi (by rw [hl'] at pl; simp at pl; omega)) (by simp)
        have hl2 : path = (pre ++ [x]) ++ suf := by rw [hl']; simp
        have p0 : at' 4 ep i = some (ix, [.int .i64 x.limit, .row () e1, .row () e2, .bool x.lists]) := by rw [hix, he1, he2]; exact F.get hi hep hl' (fun _ => rfl) (by decide)
        have k3 := fun r a c d => ok173r x cur (by omega) (by omega) z2 (f0 := .sp 0 1) (f1 := .sp 0 2) (f2 := .sp 1 0) (f3 := .nl) rfl rfl rfl rfl _ rfl r a c d
        rw [← he1, ← he2, ← z3, show row fExt cur.exts = [] by rw [z4.1]; rfl] at k3
        cases hok : pbOk x cur with
        | true =>
          have hV : pbV x cur = ⟨cur.versions, sel (stripE x.strips) idE cur.exts⟩ := by rw [pbV, hok]; rfl
          by_cases hn : sel (stripE x.strips) idE cur.exts = []
          · have c3 : o 173 [sBox x.limit e1 e2 x.lists (.sp 0 1) (.sp 0 2), sHello ev [] (.sp 1 0) .nl] = some ⟨[sHello ev [] (.ow false) .nl, B true], [], none⟩ := by
              rw [ho]
              exact k3 _ (fun _ q => absurd hn q) (fun _ _ => rfl) (fun q => by rw [hok] at q; cases q)
            cbv
            rw [F.lt_t hi lp (by simp [hl'])]; cbv
            rw [p0]; cbv
            rw [c3]; cbv
            rw [nf]; cbv
            refine ih (suf, pre ++ [x], add .i64 i 1, pbV x cur, ev, none, some ()) ⟨hi', hl2, ?_, pbV_mid z2, ?_, ?_⟩ (by simp)
            · simp only; rw [← z1, ppGo, hok, if_pos rfl]
            · simp only; rw [hV, z3]
            · simp only; rw [hV]; exact ⟨hn, by simp⟩
          · obtain ⟨nx, hnx⟩ : ∃ y_, y_ = row fExt (sel (stripE x.strips) idE cur.exts) := ⟨_, rfl⟩
            have c3 : o 173 [sBox x.limit e1 e2 x.lists (.sp 0 1) (.sp 0 2), sHello ev [] (.sp 1 0) .nl] = some ⟨[sHello ev nx (.ow false) (.ow false), B true], [], none⟩ := by
              rw [ho, hnx]
              exact k3 _ (fun _ _ => rfl) (fun _ q => absurd q hn) (fun q => by rw [hok] at q; cases q)
            cbv
            rw [F.lt_t hi lp (by simp [hl'])]; cbv
            rw [p0]; cbv
            rw [c3]; cbv
            rw [nf]; cbv
            refine ih (suf, pre ++ [x], add .i64 i 1, pbV x cur, ev, some nx, some ()) ⟨hi', hl2, ?_, pbV_mid z2, ?_, ?_⟩ (by simp)
            · simp only; rw [← z1, ppGo, hok, if_pos rfl]
            · simp only; rw [hV, z3]
            · simp only; rw [hV, hnx]; exact ⟨rfl, .inr hn⟩
        | false =>
          have c3 : o 173 [sBox x.limit e1 e2 x.lists (.sp 0 1) (.sp 0 2), sHello ev [] (.sp 1 0) .nl] = some ⟨[sHello [] [] .nl .nl, B false], [], none⟩ := by
            rw [ho]
            exact k3 _ (fun q => by rw [hok] at q; cases q) (fun q => by rw [hok] at q; cases q) (fun _ => rfl)
          cbv
          rw [F.lt_t hi lp (by simp [hl'])]; cbv
          rw [p0]; cbv
          rw [c3]; cbv
          rw [nt]; cbv
          rw [hQ1]; cbv
          rw [hQ]; cbv
          exact congrArg some (rC (by rw [← z1, ppGo, hok]; rfl))
    | some jj =>
      cases suf with
      | nil =>
        cbv
        rw [F.lt_f hi lp (by simp [hl'])]; cbv
        rw [hQ1]; cbv
        rw [hQ]; cbv
        have hpp : path = pre := by rw [hl', List.append_nil]
        rw [z3]; exact congrArg some (rB cur (by rw [hpp]; exact z4) (by rw [← z1]; rfl))
      | cons x suf =>
        obtain ⟨ix, hix⟩ : ∃ y_, y_ = pre.length * 4 := ⟨_, rfl⟩
        obtain ⟨e1, he1⟩ : ∃ y_, y_ = row fI x.drops := ⟨_, rfl⟩
        obtain ⟨e2, he2⟩ : ∃ y_, y_ = row fI x.strips := ⟨_, rfl⟩
        have hx := pm x (by rw [hl']; simp)
        unfold Box.Mid at hx
        have hi' : At (add .i64 i 1) (pre ++ [x]).length := at_len (F.inc hi (by rw [hl'] at pl; simp at pl; omega)) (by simp)
        have hl2 : path = (pre ++ [x]) ++ suf := by rw [hl']; simp
        have p0 : at' 4 ep i = some (ix, [.int .i64 x.limit, .row () e1, .row () e2, .bool x.lists]) := by rw [hix, he1, he2]; exact F.get hi hep hl' (fun _ => rfl) (by decide)
        have k3 := fun r a c d => ok173r x cur (by omega) (by omega) z2 (f0 := .sp 0 1) (f1 := .sp 0 2) (f2 := .sp 1 0) (f3 := .nl) rfl rfl rfl rfl _ rfl r a c d
        rw [← he1, ← he2, ← z3, show row fExt cur.exts = [] by rw [z4.1]; rfl] at k3
        cases hok : pbOk x cur with
        | true =>
          have hV : pbV x cur = ⟨cur.versions, sel (stripE x.strips) idE cur.exts⟩ := by rw [pbV, hok]; rfl
          by_cases hn : sel (stripE x.strips) idE cur.exts = []
          · have c3 : o 173 [sBox x.limit e1 e2 x.lists (.sp 0 1) (.sp 0 2), sHello ev [] (.sp 1 0) .nl] = some ⟨[sHello ev [] (.ow false) .nl, B true], [], none⟩ := by
              rw [ho]
              exact k3 _ (fun _ q => absurd hn q) (fun _ _ => rfl) (fun q => by rw [hok] at q; cases q)
            cbv
            rw [F.lt_t hi lp (by simp [hl'])]; cbv
            rw [p0]; cbv
            rw [c3]; cbv
            rw [nf]; cbv
            refine ih (suf, pre ++ [x], add .i64 i 1, pbV x cur, ev, none, some ()) ⟨hi', hl2, ?_, pbV_mid z2, ?_, ?_⟩ (by simp)
            · simp only; rw [← z1, ppGo, hok, if_pos rfl]
            · simp only; rw [hV, z3]
            · simp only; rw [hV]; exact ⟨hn, by simp⟩
          · obtain ⟨nx, hnx⟩ : ∃ y_, y_ = row fExt (sel (stripE x.strips) idE cur.exts) := ⟨_, rfl⟩
            have c3 : o 173 [sBox x.limit e1 e2 x.lists (.sp 0 1) (.sp 0 2), sHello ev [] (.sp 1 0) .nl] = some ⟨[sHello ev nx (.ow false) (.ow false), B true], [], none⟩ := by
              rw [ho, hnx]
              exact k3 _ (fun _ _ => rfl) (fun _ q => absurd q hn) (fun q => by rw [hok] at q; cases q)
            cbv
            rw [F.lt_t hi lp (by simp [hl'])]; cbv
            rw [p0]; cbv
            rw [c3]; cbv
            rw [nf]; cbv
            refine ih (suf, pre ++ [x], add .i64 i 1, pbV x cur, ev, some nx, some ()) ⟨hi', hl2, ?_, pbV_mid z2, ?_, ?_⟩ (by simp)
            · simp only; rw [← z1, ppGo, hok, if_pos rfl]
            · simp only; rw [hV, z3]
            · simp only; rw [hV, hnx]; exact ⟨rfl, .inr hn⟩
        | false =>
          have c3 : o 173 [sBox x.limit e1 e2 x.lists (.sp 0 1) (.sp 0 2), sHello ev [] (.sp 1 0) .nl] = some ⟨[sHello [] [] .nl .nl, B false], [], none⟩ := by
            rw [ho]
            exact k3 _ (fun q => by rw [hok] at q; cases q) (fun q => by rw [hok] at q; cases q) (fun _ => rfl)
          cbv
          rw [F.lt_t hi lp (by simp [hl'])]; cbv
          rw [p0]; cbv
          rw [c3]; cbv
          rw [nt]; cbv
          rw [hQ1]; cbv
          rw [hQ]; cbv
          exact congrArg some (rC (by rw [← z1, ppGo, hok]; rfl))
  | some ex =>
    cases j with
    | none =>
      cases suf with
      | nil =>
        cbv
        rw [F.lt_f hi lp (by simp [hl'])]; cbv
        rw [hQ1]; cbv
        rw [hQ]; cbv
        have hpp : path = pre := by rw [hl', List.append_nil]
        rw [z3, z4.1]; exact congrArg some (rA cur (by rw [hpp]; exact z4.2) (by rw [← z1]; rfl))
      | cons x suf =>
        obtain ⟨ix, hix⟩ : ∃ y_, y_ = pre.length * 4 := ⟨_, rfl⟩
        obtain ⟨e1, he1⟩ : ∃ y_, y_ = row fI x.drops := ⟨_, rfl⟩
        obtain ⟨e2, he2⟩ : ∃ y_, y_ = row fI x.strips := ⟨_, rfl⟩
        have hx := pm x (by rw [hl']; simp)
        unfold Box.Mid at hx
        have hi' : At (add .i64 i 1) (pre ++ [x]).length := at_len (F.inc hi (by rw [hl'] at pl; simp at pl; omega)) (by simp)
        have hl2 : path = (pre ++ [x]) ++ suf := by rw [hl']; simp
        have p0 : at' 4 ep i = some (ix, [.int .i64 x.limit, .row () e1, .row () e2, .bool x.lists]) := by rw [hix, he1, he2]; exact F.get hi hep hl' (fun _ => rfl) (by decide)
        have k3 := fun r a c d => ok173r x cur (by omega) (by omega) z2 (f0 := .sp 0 1) (f1 := .sp 0 2) (f2 := .sp 1 0) (f3 := .sp 1 1) rfl rfl rfl rfl _ rfl r a c d
        rw [← he1, ← he2, ← z3, ← z4.1] at k3
        cases hok : pbOk x cur with
        | true =>
          have hV : pbV x cur = ⟨cur.versions, sel (stripE x.strips) idE cur.exts⟩ := by rw [pbV, hok]; rfl
          by_cases hn : sel (stripE x.strips) idE cur.exts = []
          · have c3 : o 173 [sBox x.limit e1 e2 x.lists (.sp 0 1) (.sp 0 2), sHello ev ex (.sp 1 0) (.sp 1 1)] = some ⟨[sHello ev [] (.ow false) .nl, B true], [], none⟩ := by
              rw [ho]
              exact k3 _ (fun _ q => absurd hn q) (fun _ _ => rfl) (fun q => by rw [hok] at q; cases q)
            cbv
            rw [F.lt_t hi lp (by simp [hl'])]; cbv
            rw [p0]; cbv
            rw [c3]; cbv
            rw [nf]; cbv
            refine ih (suf, pre ++ [x], add .i64 i 1, pbV x cur, ev, none, some ()) ⟨hi', hl2, ?_, pbV_mid z2, ?_, ?_⟩ (by simp)
            · simp only; rw [← z1, ppGo, hok, if_pos rfl]
            · simp only; rw [hV, z3]
            · simp only; rw [hV]; exact ⟨hn, by simp⟩
          · obtain ⟨nx, hnx⟩ : ∃ y_, y_ = row fExt (sel (stripE x.strips) idE cur.exts) := ⟨_, rfl⟩
            have c3 : o 173 [sBox x.limit e1 e2 x.lists (.sp 0 1) (.sp 0 2), sHello ev ex (.sp 1 0) (.sp 1 1)] = some ⟨[sHello ev nx (.ow false) (.ow false), B true], [], none⟩ := by
              rw [ho, hnx]
              exact k3 _ (fun _ _ => rfl) (fun _ q => absurd q hn) (fun q => by rw [hok] at q; cases q)
            cbv
            rw [F.lt_t hi lp (by simp [hl'])]; cbv
            rw [p0]; cbv
            rw [c3]; cbv
            rw [nf]; cbv
            refine ih (suf, pre ++ [x], add .i64 i 1, pbV x cur, ev, some nx, some ()) ⟨hi', hl2, ?_, pbV_mid z2, ?_, ?_⟩ (by simp)
            · simp only; rw [← z1, ppGo, hok, if_pos rfl]
            · simp only; rw [hV, z3]
            · simp only; rw [hV, hnx]; exact ⟨rfl, .inr hn⟩
        | false =>
          have c3 : o 173 [sBox x.limit e1 e2 x.lists (.sp 0 1) (.sp 0 2), sHello ev ex (.sp 1 0) (.sp 1 1)] = some ⟨[sHello [] [] .nl .nl, B false], [], none⟩ := by
            rw [ho]
            exact k3 _ (fun q => by rw [hok] at q; cases q) (fun q => by rw [hok] at q; cases q) (fun _ => rfl)
          cbv
          rw [F.lt_t hi lp (by simp [hl'])]; cbv
          rw [p0]; cbv
          rw [c3]; cbv
          rw [nt]; cbv
          rw [hQ1]; cbv
          rw [hQ]; cbv
          exact congrArg some (rC (by rw [← z1, ppGo, hok]; rfl))
    | some jj =>
      cases suf with
      | nil =>
        cbv
        rw [F.lt_f hi lp (by simp [hl'])]; cbv
        rw [hQ1]; cbv
        rw [hQ]; cbv
        have hpp : path = pre := by rw [hl', List.append_nil]
        rw [z3, z4.1]; exact congrArg some (rA cur (by rw [hpp]; exact z4.2) (by rw [← z1]; rfl))
      | cons x suf =>
        obtain ⟨ix, hix⟩ : ∃ y_, y_ = pre.length * 4 := ⟨_, rfl⟩
        obtain ⟨e1, he1⟩ : ∃ y_, y_ = row fI x.drops := ⟨_, rfl⟩
        obtain ⟨e2, he2⟩ : ∃ y_, y_ = row fI x.strips := ⟨_, rfl⟩
        have hx := pm x (by rw [hl']; simp)
        unfold Box.Mid at hx
        have hi' : At (add .i64 i 1) (pre ++ [x]).length := at_len (F.inc hi (by rw [hl'] at pl; simp at pl; omega)) (by simp)
        have hl2 : path = (pre ++ [x]) ++ suf := by rw [hl']; simp
        have p0 : at' 4 ep i = some (ix, [.int .i64 x.limit, .row () e1, .row () e2, .bool x.lists]) := by rw [hix, he1, he2]; exact F.get hi hep hl' (fun _ => rfl) (by decide)
        have k3 := fun r a c d => ok173r x cur (by omega) (by omega) z2 (f0 := .sp 0 1) (f1 := .sp 0 2) (f2 := .sp 1 0) (f3 := .sp 1 1) rfl rfl rfl rfl _ rfl r a c d
        rw [← he1, ← he2, ← z3, ← z4.1] at k3
        cases hok : pbOk x cur with
        | true =>
          have hV : pbV x cur = ⟨cur.versions, sel (stripE x.strips) idE cur.exts⟩ := by rw [pbV, hok]; rfl
          by_cases hn : sel (stripE x.strips) idE cur.exts = []
          · have c3 : o 173 [sBox x.limit e1 e2 x.lists (.sp 0 1) (.sp 0 2), sHello ev ex (.sp 1 0) (.sp 1 1)] = some ⟨[sHello ev [] (.ow false) .nl, B true], [], none⟩ := by
              rw [ho]
              exact k3 _ (fun _ q => absurd hn q) (fun _ _ => rfl) (fun q => by rw [hok] at q; cases q)
            cbv
            rw [F.lt_t hi lp (by simp [hl'])]; cbv
            rw [p0]; cbv
            rw [c3]; cbv
            rw [nf]; cbv
            refine ih (suf, pre ++ [x], add .i64 i 1, pbV x cur, ev, none, some ()) ⟨hi', hl2, ?_, pbV_mid z2, ?_, ?_⟩ (by simp)
            · simp only; rw [← z1, ppGo, hok, if_pos rfl]
            · simp only; rw [hV, z3]
            · simp only; rw [hV]; exact ⟨hn, by simp⟩
          · obtain ⟨nx, hnx⟩ : ∃ y_, y_ = row fExt (sel (stripE x.strips) idE cur.exts) := ⟨_, rfl⟩
            have c3 : o 173 [sBox x.limit e1 e2 x.lists (.sp 0 1) (.sp 0 2), sHello ev ex (.sp 1 0) (.sp 1 1)] = some ⟨[sHello ev nx (.ow false) (.ow false), B true], [], none⟩ := by
              rw [ho, hnx]
              exact k3 _ (fun _ _ => rfl) (fun _ q => absurd q hn) (fun q => by rw [hok] at q; cases q)
            cbv
            rw [F.lt_t hi lp (by simp [hl'])]; cbv
            rw [p0]; cbv
            rw [c3]; cbv
            rw [nf]; cbv
            refine ih (suf, pre ++ [x], add .i64 i 1, pbV x cur, ev, some nx, some ()) ⟨hi', hl2, ?_, pbV_mid z2, ?_, ?_⟩ (by simp)
            · simp only; rw [← z1, ppGo, hok, if_pos rfl]
            · simp only; rw [hV, z3]
            · simp only; rw [hV, hnx]; exact ⟨rfl, .inr hn⟩
        | false =>
          have c3 : o 173 [sBox x.limit e1 e2 x.lists (.sp 0 1) (.sp 0 2), sHello ev ex (.sp 1 0) (.sp 1 1)] = some ⟨[sHello [] [] .nl .nl, B false], [], none⟩ := by
            rw [ho]
            exact k3 _ (fun q => by rw [hok] at q; cases q) (fun q => by rw [hok] at q; cases q) (fun _ => rfl)
          cbv
          rw [F.lt_t hi lp (by simp [hl'])]; cbv
          rw [p0]; cbv
          rw [c3]; cbv
          rw [nt]; cbv
          rw [hQ1]; cbv
          rw [hQ]; cbv
          exact congrArg some (rC (by rw [← z1, ppGo, hok]; rfl))
theorem ok196 (path : List Box) (h : Hello) (pl : path.length ≤ 1073741824) (pm : ∀ y ∈ path, y.Mid) (mh : h.Mid) {f0 f1 f2 : Fl} (q0 : inFl f0 = true) (q1 : inFl f1 = true) (q2 : inFl f2 = true) :
    fix Tb md 196 [R (row fBox path) f0, sHello (row fI h.versions) (row fExt h.exts) f1 f2] = some ⟨[sHello (row fI (ppV path h).versions) (row fExt (ppV path h).exts) (.ow false) (.ow false), B (ppOk path h)], [], none⟩ ∨
    ((ppV path h).exts = [] ∧ fix Tb md 196 [R (row fBox path) f0, sHello (row fI h.versions) (row fExt h.exts) f1 f2] = some ⟨[sHello (row fI (ppV path h).versions) [] (.ow false) .nl, B (ppOk path h)], [], none⟩) ∨
    ((ppV path h).versions = [] ∧ (ppV path h).exts = [] ∧ fix Tb md 196 [R (row fBox path) f0, sHello (row fI h.versions) (row fExt h.exts) f1 f2] = some ⟨[sHello [] [] .nl .nl, B (ppOk path h)], [], none⟩) := by
  have hmain := fun r a b c => ok196r path h pl pm mh q0 q1 q2 r a b c
  unfold ppV ppOk
  rcases hq : pp path h with ⟨z, k⟩
  rcases pp_cases path h with h1 | h1
  · rw [hq] at h1
    simp only at h1
    subst h1
    by_cases hz : z.exts = [] ∧ path ≠ []
    · refine .inr (.inl ⟨hz.1, hmain _ (fun z' q1 q => ?_) (fun z' q1 q => by rw [hq] at q; cases q; rfl) (fun q => by rw [hq] at q; cases q)⟩)
      rw [hq] at q; cases q
      rcases q1 with q1 | q1
      · exact absurd q1 hz.2
      · exact absurd hz.1 q1
    · refine .inl (hmain _ (fun z' _ q => by rw [hq] at q; cases q; rfl) (fun z' q1 q => ?_) (fun q => by rw [hq] at q; cases q))
      rw [hq] at q; cases q
      exact absurd q1 hz
  · rw [hq] at h1; cases h1
    exact .inr (.inr ⟨rfl, rfl, hmain _ (fun z' _ q => by rw [hq] at q; cases q) (fun z' _ q => by rw [hq] at q; cases q) (fun _ => rfl)⟩)

/- laws.eqExt -/
theorem ok321 (x : Ext) (w : x.Mid) {f0 : Fl} (q0 : inFl f0 = true) {g0 : Fl} (p0 : inFl g0 = true) :
    fix Tb md 321 [sExt x.tag (row fI x.body) f0, sExt x.tag (row fI x.body) g0] = some ⟨[B true], [], none⟩ := by
  refine fix_fn (fn := ir321) tb_321 rfl rfl (by decide) rfl ?_; simp only [shutArgs, shutS, List.map_cons, List.map_nil, ir321, shut_in q0, shut_in p0, List.head?_nil, reduceCtorEq, if_false, sExt, sHello, sAnswer, sEdit, sDeal, sBox, sDialed, sKnown]
  generalize hr : (⟨_, [], none⟩ : Ret) = r
  obtain ⟨e1, he1⟩ : ∃ y_, y_ = row fI x.body := ⟨_, rfl⟩
  rw [← he1]
  unfold Ext.Mid at w
  intro add sub mul arith eq ne lt le gt ge neg conv mn mx not beq len at' ln bd cut app allS isNil mks set o hP F ho
  have c1 : o 79 [R e1 (.sp 0 0), R e1 (.sp 1 0)] = some ⟨[B true], [], none⟩ := by rw [ho, he1]; exact ok79t _ (by have := w; omega) rfl rfl
  cbv
  rw [F.ne_f rfl]; cbv
  rw [c1]; cbv
  rw [show not true = false by rw [F.not]; rfl]; cbv
  exact congrArg some hr

/- laws.eqExtS -/
theorem ok200 (l : List (Ext)) (w : l.length ≤ 1073741824 ∧ ∀ y ∈ l, y.Mid) {f0 f1 : Fl} (q0 : inFl f0 = true) (q1 : inFl f1 = true) :
    fix Tb md 200 [R (row fExt l) f0, R (row fExt l) f1] = some ⟨[B true], [], none⟩ := by
  have w1 := w.1
  refine fix_fn (fn := ir200) tb_200 rfl rfl (by decide) rfl ?_; simp only [shutArgs, shutS, List.map_cons, List.map_nil, ir200, shut_in q0, shut_in q1, List.head?_nil, reduceCtorEq, if_false, sExt, sHello, sAnswer, sEdit, sDeal, sBox, sDialed, sKnown]
  generalize hr : (⟨_, [], none⟩ : Ret) = r
  obtain ⟨ea, hea⟩ : ∃ y_, y_ = row fExt l := ⟨_, rfl⟩
  rw [← hea]
  intro add sub mul arith eq ne lt le gt ge neg conv mn mx not beq len at' ln bd cut app allS isNil mks set o hP F ho
  have la := F.len_at hea
  cbv
  rw [F.ne_f rfl]; cbv
  refine loop_ind hP (σ := List (Ext) × List (Ext) × Int) (fun s => [(0, R ea .sh), (1, R ea .sh), (4, B false), (5, I s.2.2)])
    (fun s => At s.2.2 s.2.1.length ∧ l = s.2.1 ++ s.1) (fun s => s.1.length) (l, [], 0) rfl ⟨rfl, rfl⟩ ?_
  rintro ⟨suf, pre, i⟩ ⟨hi, hl'⟩ ih
  simp only at hi hl' ih
  cbv
  cases suf with
  | nil =>
    rw [F.lt_f hi la (by simp [hl'])]; cbv
    exact congrArg some hr
  | cons x suf =>
    rw [F.lt_t hi la (by simp [hl'])]; cbv
    obtain ⟨e1, he1⟩ : ∃ y_, y_ = row fI x.body := ⟨_, rfl⟩
    obtain ⟨ix, hix⟩ : ∃ y_, y_ = pre.length * 2 := ⟨_, rfl⟩
    have a1 : at' 2 ea i = some (ix, [.int .i64 x.tag, .row () e1]) := by rw [hix, he1]; exact F.get hi hea hl' (fun _ => rfl) (by decide)
    rw [a1]; cbv
    try (rw [a1]; cbv)
    have c1 : o 321 [sExt x.tag e1 (.sp 0 1), sExt x.tag e1 (.sp 1 1)] = some ⟨[B true], [], none⟩ := by rw [ho, he1]; exact ok321 x (w.2 x (by rw [hl']; simp)) rfl rfl
    rw [c1]; cbv
    rw [show not true = false by rw [F.not]; rfl]; cbv
    refine ih (suf, pre ++ [x], add .i64 i 1) ⟨at_len (F.inc hi (by simp [hl'] at w1; omega)) (by simp), by simp [hl']⟩ (by simp)

/- laws.eqHello -/
theorem ok78 (x : Hello) (w : x.Mid) {f0 f1 : Fl} (q0 : inFl f0 = true) (q1 : inFl f1 = true) {g0 g1 : Fl} (p0 : inFl g0 = true) (p1 : inFl g1 = true) :
    fix Tb md 78 [sHello (row fI x.versions) (row fExt x.exts) f0 f1, sHello (row fI x.versions) (row fExt x.exts) g0 g1] = some ⟨[B true], [], none⟩ := by
  refine fix_fn (fn := ir78) tb_78 rfl rfl (by decide) rfl ?_; simp only [shutArgs, shutS, List.map_cons, List.map_nil, ir78, shut_in q0, shut_in q1, shut_in p0, shut_in p1, List.head?_nil, reduceCtorEq, if_false, sExt, sHello, sAnswer, sEdit, sDeal, sBox, sDialed, sKnown]
  generalize hr : (⟨_, [], none⟩ : Ret) = r
  obtain ⟨e1, he1⟩ : ∃ y_, y_ = row fI x.versions := ⟨_, rfl⟩
  obtain ⟨e2, he2⟩ : ∃ y_, y_ = row fExt x.exts := ⟨_, rfl⟩
  rw [← he1, ← he2]
  unfold Hello.Mid at w
  intro add sub mul arith eq ne lt le gt ge neg conv mn mx not beq len at' ln bd cut app allS isNil mks set o hP F ho
  have c1 : o 79 [R e1 (.sp 0 0), R e1 (.sp 1 0)] = some ⟨[B true], [], none⟩ := by rw [ho, he1]; exact ok79t _ (by have := w.1; omega) rfl rfl
  have c2 : o 200 [R e2 (.sp 0 0), R e2 (.sp 1 0)] = some ⟨[B true], [], none⟩ := by rw [ho, he2]; exact ok200 _ w.2 rfl rfl
  cbv
  rw [c1]; cbv
  rw [show not true = false by rw [F.not]; rfl]; cbv
  rw [c2]; cbv
  rw [show not true = false by rw [F.not]; rfl]; cbv
  exact congrArg some hr

/- laws.heldIntS -/
theorem ok125 (l : List Int) (k : Int) (hk : Lim k l.length) (hl : l.length ≤ 1099511627776) {f0 : Fl} (h0 : inFl f0 = true) : fix Tb md 125 [R (row fI (mI l k)) f0, I k] = some ⟨[I (k + (l.length : Int))], [], none⟩ := by
  obtain ⟨t, ht⟩ : ∃ y_, y_ = k + (l.length : Int) := ⟨_, rfl⟩
  have hT : AtK t k l.length := ht
  rw [← ht]
  clear ht
  refine fix_fn (fn := ir125) tb_125 rfl rfl (by decide) rfl ?_; simp only [shutArgs, shutS, List.map_cons, List.map_nil, ir125, shut_in h0, List.head?_nil, reduceCtorEq, if_false, sExt, sHello, sAnswer, sEdit, sDeal, sBox, sDialed, sKnown]
  generalize hr : (⟨_, [], none⟩ : Ret) = r
  obtain ⟨ea, hea⟩ : ∃ y_, y_ = row fI (mI l k) := ⟨_, rfl⟩
  rw [← hea]
  intro add sub mul arith eq ne lt le gt ge neg conv mn mx not beq len at' ln bd cut app allS isNil mks set o hP F ho
  have la := F.len_at hea
  cbv
  refine loop_ind hP (σ := List Int × List Int × Int × Int) (fun s => [(0, R ea .sh), (1, I s.2.2.1), (4, I 0), (5, I s.2.2.2)])
    (fun s => At s.2.2.2 s.2.1.length ∧ AtK s.2.2.1 k s.2.1.length ∧ l = s.2.1 ++ s.1) (fun s => s.1.length) (l, [], k, 0) rfl ⟨rfl, AtK.zero, rfl⟩ ?_
  rintro ⟨suf, pre, x, i⟩ ⟨hi, hx, hl'⟩ ih
  simp only at hi hx hl' ih
  cbv
  cases suf with
  | nil =>
    rw [F.lt_f hi la (by rw [mI_len, hl']; simp)]; cbv
    rw [← hr, show x = t by rw [hx.same, hT.same, hl']; simp]
  | cons y suf =>
    have hl3 : pre.length + 1 ≤ l.length := by rw [hl']; simp
    have a1 : add .i64 x 1 = x + 1 := by rw [F.add, hx.inc hk (by omega)]
    have hm : mI l k = mI pre k ++ x :: mI suf (x + 1) := by rw [hl', mI_app pre _ k x hx]; rfl
    rw [F.lt_t hi la (by rw [mI_len, hl']; simp)]; cbv
    obtain ⟨ix, hix⟩ : ∃ y_, y_ = pre.length * 1 := ⟨_, rfl⟩
    rw [show at' 1 ea i = some (ix, [.int .i64 x]) by rw [hix]; have h := F.get (f := fI) (k := 1) (show At i (mI pre k).length by rw [mI_len]; exact hi) hea hm (fun _ => rfl) (by decide); rw [mI_len] at h; exact h]; cbv
    rw [F.ne_f rfl]; cbv
    rw [a1]
    refine ih (suf, pre ++ [y], x + 1, add .i64 i 1) ⟨at_len (F.inc hi (by omega)) (by simp), hx.one.eq (by simp), by simp [hl']⟩ (by simp)

/- laws.heldExtS -/
set_option maxHeartbeats 2000000 in
theorem ok236 (l : List Ext) (k : Int) (hk : Lim k (cExtS l)) (hl : l.length ≤ 1099511627776) (w0 : ∀ y ∈ l, y.body.length ≤ 1099511627776) {f0 : Fl} (h0 : inFl f0 = true) : fix Tb md 236 [R (row fExt (mExtS l k)) f0, I k] = some ⟨[I (k + (cExtS l : Int))], [], none⟩ := by
  obtain ⟨t, ht⟩ : ∃ y_, y_ = k + (cExtS l : Int) := ⟨_, rfl⟩
  have hT : AtK t k (cExtS l) := ht
  rw [← ht]
  clear ht
  refine fix_fn (fn := ir236) tb_236 rfl rfl (by decide) rfl ?_; simp only [shutArgs, shutS, List.map_cons, List.map_nil, ir236, shut_in h0, List.head?_nil, reduceCtorEq, if_false, sExt, sHello, sAnswer, sEdit, sDeal, sBox, sDialed, sKnown]
  generalize hr : (⟨_, [], none⟩ : Ret) = r
  obtain ⟨ea, hea⟩ : ∃ y_, y_ = row fExt (mExtS l k) := ⟨_, rfl⟩
  rw [← hea]
  intro add sub mul arith eq ne lt le gt ge neg conv mn mx not beq len at' ln bd cut app allS isNil mks set o hP F ho
  have la := F.len_at hea
  cbv
  refine loop_ind hP (σ := List Ext × List Ext × Int × Int) (fun s => [(0, R ea .sh), (1, I s.2.2.1), (4, I 0), (5, I s.2.2.2)])
    (fun s => At s.2.2.2 s.2.1.length ∧ AtK s.2.2.1 k (cExtS s.2.1) ∧ l = s.2.1 ++ s.1) (fun s => s.1.length) (l, [], k, 0) rfl ⟨rfl, AtK.zero, rfl⟩ ?_
  rintro ⟨suf, pre, z0, i⟩ ⟨hi, a0, hl'⟩ ih
  simp only at hi a0 hl' ih
  cbv
  cases suf with
  | nil =>
    rw [F.lt_f hi la (by rw [mExtS_len, hl']; simp)]; cbv
    rw [← hr, show z0 = t by rw [a0.same, hT.same, hl']; simp]
  | cons x suf =>
    have hl3 : pre.length + 1 ≤ l.length := by rw [hl']; simp
    have hc : cExtS l = cExtS pre + (cExt x + cExtS suf) := by rw [hl']; simp [cExtS]
    have hcx : cExt x = 1 + x.body.length := rfl
    obtain ⟨z1, hz1⟩ : ∃ y_, y_ = z0 + 1 := ⟨_, rfl⟩
    have a1 : AtK z1 k (cExtS pre + 1) := hz1 ▸ a0.one
    have s1 : add .i64 z0 1 = z1 := by rw [F.add, a0.inc hk (by omega), hz1]
    obtain ⟨z2, hz2⟩ : ∃ y_, y_ = z1 + (x.body.length : Int) := ⟨_, rfl⟩
    have a2 : AtK z2 k (cExtS pre + 1 + x.body.length) := hz2 ▸ a1.plus
    have m2 : Lim z1 x.body.length := a1.lim hk (by omega)
    have n2 : 0 ≤ z2 := by have := m2.nn; omega
    have hmx : mExt x z0 = (⟨z0, (mI x.body z1)⟩ : Ext) := by simp only [mExt, hz1, hz2]
    have hzn : z0 + (cExt x : Int) = z2 := by rw [hcx, a2.same, a0.same]; omega
    have hm : mExtS l k = mExtS pre k ++ (⟨z0, (mI x.body z1)⟩ : Ext) :: mExtS suf z2 := by rw [hl', mExtS_app pre _ k z0 a0, ← hmx, ← hzn]; rfl
    have y0 : x.body.length ≤ 1099511627776 := w0 x (by rw [hl']; simp)
    obtain ⟨g1, hg1⟩ : ∃ y_, y_ = row fI (mI x.body z1) := ⟨_, rfl⟩
    rw [F.lt_t hi la (by rw [mExtS_len, hl']; simp)]; cbv
    obtain ⟨ix, hix⟩ : ∃ y_, y_ = pre.length * 2 := ⟨_, rfl⟩
    have p0 : at' 2 ea i = some (ix, [.int .i64 z0, .row () g1]) := by simp only [hix, hg1]; have h := F.get (f := fExt) (k := 2) (show At i (mExtS pre k).length by rw [mExtS_len]; exact hi) hea hm (fun _ => rfl) (by decide); rw [mExtS_len] at h; exact h
    rw [p0]; cbv
    rw [F.ne_f rfl]; cbv
    rw [s1]
    rw [p0]; cbv
    have c1 : o 125 [R g1 (.sp 0 0), I z1] = some ⟨[I z2], [], none⟩ := by rw [ho, hg1, hz2]; exact ok125 _ _ m2 y0 rfl
    rw [c1]; cbv
    rw [show lt z2 0 = false by rw [F.lt]; simp; omega]; cbv
    refine ih (suf, pre ++ [x], z2, add .i64 i 1) ⟨at_len (F.inc hi (by omega)) (by simp), a2.eq (by simp [cExtS, cExt] <;> omega), by simp [hl']⟩ (by simp)

/- laws.heldHello -/
theorem ok82 (x : Hello) (k : Int) (hk : Lim k (nHello x)) (w : x.Mid) {f0 f1 : Fl} (q0 : inFl f0 = true) (q1 : inFl f1 = true) : fix Tb md 82 [sHello (row fI (wHello x k).versions) (row fExt (wHello x k).exts) f0 f1, I k] = some ⟨[I (k + (nHello x : Int))], [], none⟩ := by
  have hn : nHello x = x.versions.length + cExtS x.exts := rfl
  unfold Hello.Mid at w
  have a0 : AtK k k 0 := AtK.zero
  obtain ⟨z1, hz1⟩ : ∃ y_, y_ = k + (x.versions.length : Int) := ⟨_, rfl⟩
  have a1 : AtK z1 k (0 + x.versions.length) := hz1 ▸ a0.plus
  have m1 : Lim k (x.versions.length) := a0.lim hk (by omega)
  have n1 : 0 ≤ z1 := by have := m1.nn; omega
  obtain ⟨z2, hz2⟩ : ∃ y_, y_ = z1 + (cExtS x.exts : Int) := ⟨_, rfl⟩
  have a2 : AtK z2 k (0 + x.versions.length + cExtS x.exts) := hz2 ▸ a1.plus
  have m2 : Lim z1 (cExtS x.exts) := a1.lim hk (by omega)
  have n2 : 0 ≤ z2 := by have := m2.nn; omega
  rw [show k + (nHello x : Int) = z2 by rw [a2.same, hn]; simp]
  have x0 : (wHello x k).versions = mI x.versions k := by simp only [wHello, hz1, hz2]
  have x1 : (wHello x k).exts = mExtS x.exts z1 := by simp only [wHello, hz1, hz2]
  rw [x0, x1]
  refine fix_fn (fn := ir82) tb_82 rfl rfl (by decide) rfl ?_; simp only [shutArgs, shutS, List.map_cons, List.map_nil, ir82, shut_in q0, shut_in q1, List.head?_nil, reduceCtorEq, if_false, sExt, sHello, sAnswer, sEdit, sDeal, sBox, sDialed, sKnown]
  generalize hr : (⟨_, [], none⟩ : Ret) = r
  obtain ⟨g0, hg0⟩ : ∃ y_, y_ = row fI (mI x.versions k) := ⟨_, rfl⟩
  obtain ⟨g1, hg1⟩ : ∃ y_, y_ = row fExt (mExtS x.exts z1) := ⟨_, rfl⟩
  rw [← hg0, ← hg1]
  intro add sub mul arith eq ne lt le gt ge neg conv mn mx not beq len at' ln bd cut app allS isNil mks set o hP F ho
  have c1 : o 125 [R g0 (.sp 0 0), I k] = some ⟨[I z1], [], none⟩ := by rw [ho, hz1, hg0]; exact ok125 _ _ m1 (Nat.le_trans (w.1) (by decide)) rfl
  have c2 : o 236 [R g1 (.sp 0 0), I z1] = some ⟨[I z2], [], none⟩ := by rw [ho, hz2, hg1]; exact ok236 _ _ m2 (Nat.le_trans w.2.1 (by decide)) (fun y hy => Nat.le_trans ((w.2.2 y hy)) (by decide)) rfl
  cbv
  rw [c1]; cbv
  rw [show lt z1 0 = false by rw [F.lt]; simp; omega]; cbv
  rw [c2]; cbv
  rw [show lt z2 0 = false by rw [F.lt]; simp; omega]; cbv
  exact congrArg some hr

/- laws.szExt -/
theorem ok319 (x : Ext) (left : Int) (w : x.Fits) (h1 : 0 ≤ left) (h2 : left ≤ 1048576) {f0 : Fl} (q0 : inFl f0 = true) :
    fix Tb md 319 [sExt x.tag (row fI x.body) f0, I left] = some ⟨[I (szExt x left)], [], none⟩ := by
  refine fix_fn (fn := ir319) tb_319 rfl rfl (by decide) rfl ?_; simp only [shutArgs, shutS, List.map_cons, List.map_nil, ir319, shut_in q0, List.head?_nil, reduceCtorEq, if_false, sExt, sHello, sAnswer, sEdit, sDeal, sBox, sDialed, sKnown]
  obtain ⟨v1, hv1⟩ : ∃ y_, y_ = sz1 x.body.length left := ⟨_, rfl⟩
  rw [show szExt x left = v1 by rw [hv1]; rfl]
  generalize hr : (⟨_, [], none⟩ : Ret) = r
  obtain ⟨e1, he1⟩ : ∃ y_, y_ = row fI x.body := ⟨_, rfl⟩
  rw [← he1]
  have g1 : v1 ≤ 1048576 := by rw [hv1]; exact (Sz.of1 x.body.length).up h2
  have l1 : -1 ≤ v1 := by rw [hv1]; exact (Sz.of1 x.body.length).lo _ h2
  unfold Ext.Fits at w
  intro add sub mul arith eq ne lt le gt ge neg conv mn mx not beq len at' ln bd cut app allS isNil mks set o hP F ho
  have c1 : o 227 [R e1 (.sp 0 0), I left] = some ⟨[I v1], [], none⟩ := by rw [ho, hv1, he1]; exact ok227 fI _ _ w.2.1 h1 h2 rfl
  cbv
  rw [c1]; cbv
  refine both (fun d1 => ?_) (fun d1 => ?_) <;> rw [d1] <;> cbv
  · clear hP c1 ho; simp only [F.lt, decide_eq_true_eq] at d1; clear F; rw [← hr, show v1 = -1 by omega]
  exact congrArg some hr

/- laws.szExtS -/
theorem ok197 (l : List Ext) (left : Int) (w : l.length ≤ 9223372036854775807 ∧ ∀ y ∈ l, y.Fits) (h1 : 0 ≤ left) (h2 : left ≤ 1048576) {f0 : Fl} (q0 : inFl f0 = true) :
    fix Tb md 197 [R (row fExt l) f0, I left] = some ⟨[I (szL szExt l left)], [], none⟩ := by
  have w1 := w.1
  by_cases hl : left - l.length < 0
  · rw [show szL szExt l left = -1 from szF_neg szExt_Sz l _ (by unfold sz1; rw [if_pos hl])]
    refine fix_fn (fn := ir197) tb_197 rfl rfl (by decide) rfl ?_; simp only [shutArgs, shutS, List.map_cons, List.map_nil, ir197, shut_in q0, List.head?_nil, reduceCtorEq, if_false, sExt, sHello, sAnswer, sEdit, sDeal, sBox, sDialed, sKnown]
    generalize hr : (⟨_, [], none⟩ : Ret) = r
    obtain ⟨ea, hea⟩ : ∃ y_, y_ = row fExt l := ⟨_, rfl⟩
    rw [← hea]
    intro add sub mul arith eq ne lt le gt ge neg conv mn mx not beq len at' ln bd cut app allS isNil mks set o hP F ho
    have le := F.len_at hea
    unfold At at le
    have hs : lt (sub .i64 left (len ea)) 0 = true := by rw [F.lt, F.sub, le, wrap64 (by omega) (by omega)]; simp; omega
    cbv
    rw [hs]
    cbv
    exact congrArg some hr
  · have hT : szL szExt l left = l.foldl (fun a x => szExt x a) (left - l.length) := by unfold szL sz1; rw [if_neg hl]
    rw [hT]
    refine fix_fn (fn := ir197) tb_197 rfl rfl (by decide) rfl ?_; simp only [shutArgs, shutS, List.map_cons, List.map_nil, ir197, shut_in q0, List.head?_nil, reduceCtorEq, if_false, sExt, sHello, sAnswer, sEdit, sDeal, sBox, sDialed, sKnown]
    obtain ⟨v, hv⟩ : ∃ y_, y_ = left - l.length := ⟨_, rfl⟩
    rw [← hv]
    have u3 : 0 ≤ v := by omega
    have u4 : v ≤ 1048576 := by omega
    have u5 : l.length ≤ 1048576 := by omega
    obtain ⟨T, hT⟩ : ∃ y_, y_ = l.foldl (fun a x => szExt x a) v := ⟨_, rfl⟩
    rw [← hT]
    generalize hr : (⟨_, [], none⟩ : Ret) = r
    obtain ⟨ea, hea⟩ : ∃ y_, y_ = row fExt l := ⟨_, rfl⟩
    rw [← hea]
    intro add sub mul arith eq ne lt le gt ge neg conv mn mx not beq len at' ln bd cut app allS isNil mks set o hP F ho
    have le := F.len_at hea
    have e1 : sub .i64 left (len ea) = v := by unfold At at le; rw [F.sub, le, wrap64 (by omega) (by omega), hv]
    have hs : lt v 0 = false := by rw [F.lt, hv]; simp; omega
    cbv
    rw [e1, hs]
    cbv
    refine loop_ind hP (σ := List (Ext) × List (Ext) × Int × Int) (fun s => [(0, R ea .sh), (1, I s.2.2.1), (4, I 0), (5, I s.2.2.2)])
      (fun s => At s.2.2.2 s.2.1.length ∧ l = s.2.1 ++ s.1 ∧ 0 ≤ s.2.2.1 ∧ s.2.2.1 ≤ 1048576 ∧ s.1.foldl (fun a x => szExt x a) s.2.2.1 = T) (fun s => s.1.length) (l, [], v, 0) rfl ⟨rfl, rfl, u3, u4, hT.symm⟩ ?_
    rintro ⟨suf, pre, a, i⟩ ⟨hi, hl', ha0, ha1, hf⟩ ih
    simp only at hi hl' ha0 ha1 hf ih
    cbv
    cases suf with
    | nil =>
      rw [F.lt_f hi le (by simp [hl'])]; cbv
      simp only [List.foldl_nil] at hf
      rw [← hr, hf]
    | cons x suf =>
      rw [F.lt_t hi le (by simp [hl'])]; cbv
      rw [List.foldl_cons] at hf
      obtain ⟨e1, he1⟩ : ∃ y_, y_ = row fI x.body := ⟨_, rfl⟩
      obtain ⟨ix, hix⟩ : ∃ y_, y_ = pre.length * 2 := ⟨_, rfl⟩
      rw [show at' 2 ea i = some (ix, [.int .i64 x.tag, .row () e1]) by rw [hix, he1]; exact F.get hi hea hl' (fun _ => rfl) (by decide)]; cbv
      obtain ⟨a', ha'⟩ : ∃ y_, y_ = szExt x a := ⟨_, rfl⟩
      rw [← ha'] at hf
      have u1 : a' ≤ 1048576 := by rw [ha']; exact (szExt_Sz x).up ha1
      have u2 : -1 ≤ a' := by rw [ha']; exact (szExt_Sz x).lo _ ha1
      have c1 : o 319 [sExt x.tag e1 (.sp 0 1), I a] = some ⟨[I a'], [], none⟩ := by rw [ho, ha', he1]; exact ok319 x a (w.2 x (by rw [hl']; simp)) ha0 ha1 rfl
      rw [c1]; cbv
      refine both (fun c => ?_) (fun c => ?_) <;> rw [c] <;> cbv
      · simp only [F.lt, decide_eq_true_eq] at c
        rw [← hr, ← hf, szF_neg szExt_Sz suf a' (by omega)]
      · simp only [F.lt, decide_eq_false_iff_not] at c
        refine ih (suf, pre ++ [x], a', add .i64 i 1) ⟨at_len (F.inc hi (by simp [hl'] at u5; omega)) (by simp), by simp [hl'], by simp only; omega, u1, hf⟩ (by simp)

/- laws.szHello -/
theorem ok83 (x : Hello) (left : Int) (w : x.Fits) (h1 : 0 ≤ left) (h2 : left ≤ 1048576) {f0 f1 : Fl} (q0 : inFl f0 = true) (q1 : inFl f1 = true) :
    fix Tb md 83 [sHello (row fI x.versions) (row fExt x.exts) f0 f1, I left] = some ⟨[I (szHello x left)], [], none⟩ := by
  refine fix_fn (fn := ir83) tb_83 rfl rfl (by decide) rfl ?_; simp only [shutArgs, shutS, List.map_cons, List.map_nil, ir83, shut_in q0, shut_in q1, List.head?_nil, reduceCtorEq, if_false, sExt, sHello, sAnswer, sEdit, sDeal, sBox, sDialed, sKnown]
  obtain ⟨v1, hv1⟩ : ∃ y_, y_ = sz1 x.versions.length left := ⟨_, rfl⟩
  obtain ⟨v2, hv2⟩ : ∃ y_, y_ = szL szExt x.exts v1 := ⟨_, rfl⟩
  rw [show szHello x left = v2 by rw [hv2, hv1]; rfl]
  generalize hr : (⟨_, [], none⟩ : Ret) = r
  obtain ⟨e1, he1⟩ : ∃ y_, y_ = row fI x.versions := ⟨_, rfl⟩
  obtain ⟨e2, he2⟩ : ∃ y_, y_ = row fExt x.exts := ⟨_, rfl⟩
  rw [← he1, ← he2]
  have g1 : v1 ≤ 1048576 := by rw [hv1]; exact (Sz.of1 x.versions.length).up h2
  have l1 : -1 ≤ v1 := by rw [hv1]; exact (Sz.of1 x.versions.length).lo _ h2
  have g2 : v2 ≤ 1048576 := by rw [hv2]; exact (Sz.list szExt_Sz x.exts).up g1
  have l2 : -1 ≤ v2 := by rw [hv2]; exact (Sz.list szExt_Sz x.exts).lo _ g1
  have n2 : v1 < 0 → v2 = -1 := fun q => by rw [hv2]; exact (Sz.list szExt_Sz x.exts).neg _ q
  unfold Hello.Fits at w
  intro add sub mul arith eq ne lt le gt ge neg conv mn mx not beq len at' ln bd cut app allS isNil mks set o hP F ho
  have c1 : o 227 [R e1 (.sp 0 0), I left] = some ⟨[I v1], [], none⟩ := by rw [ho, hv1, he1]; exact ok227 fI _ _ w.1.1 h1 h2 rfl
  have c2 : 0 ≤ v1 → o 197 [R e2 (.sp 0 0), I v1] = some ⟨[I v2], [], none⟩ := by intro q; rw [ho, hv2, he2]; exact ok197 _ _ w.2 q g1 rfl
  cbv
  rw [c1]; cbv
  refine both (fun d1 => ?_) (fun d1 => ?_) <;> rw [d1] <;> cbv
  · clear hP c1 c2 ho; simp only [F.lt, decide_eq_true_eq] at d1; clear F; rw [← hr, show v2 = -1 by omega]
  rw [c2 (by simp only [F.lt, decide_eq_false_iff_not] at d1; omega)]; cbv
  refine both (fun d2 => ?_) (fun d2 => ?_) <;> rw [d2] <;> cbv
  · clear hP c1 c2 ho; simp only [F.lt, decide_eq_true_eq] at d2; clear F; rw [← hr, show v2 = -1 by omega]
  exact congrArg some hr

/- laws.toExt -/
theorem ok320 (x : Ext) (w : x.Mid) {f0 : Fl} (q0 : inFl f0 = true) :
    fix Tb md 320 [sExt x.tag (row fI x.body) f0] = some ⟨[sExt x.tag (row fI x.body) (.ow false)], [], none⟩ := by
  refine fix_fn (fn := ir320) tb_320 rfl rfl (by decide) rfl ?_; simp only [shutArgs, shutS, List.map_cons, List.map_nil, ir320, shut_in q0, List.head?_nil, reduceCtorEq, if_false, sExt, sHello, sAnswer, sEdit, sDeal, sBox, sDialed, sKnown]
  generalize hr : (⟨_, [], none⟩ : Ret) = r
  obtain ⟨e1, he1⟩ : ∃ y_, y_ = row fI x.body := ⟨_, rfl⟩
  rw [← he1] at hr ⊢
  unfold Ext.Mid at w
  intro add sub mul arith eq ne lt le gt ge neg conv mn mx not beq len at' ln bd cut app allS isNil mks set o hP F ho
  have c1 : o 76 [R e1 (.sp 0 0)] = some ⟨[R e1 (.ow false)], [], none⟩ := by rw [ho, he1]; exact ok76 _ (by have := w; omega) rfl
  cbv
  rw [c1]; cbv
  exact congrArg some hr

/- laws.toExtS -/
theorem ok199 (l : List (Ext)) (w : l.length ≤ 1073741824 ∧ ∀ y ∈ l, y.Mid) {f0 : Fl} (q0 : inFl f0 = true) :
    fix Tb md 199 [R (row fExt l) f0] = some ⟨[R (row fExt l) (.ow false)], [], none⟩ := by
  have w1 := w.1
  refine fix_fn (fn := ir199) tb_199 rfl rfl (by decide) rfl ?_; simp only [shutArgs, shutS, List.map_cons, List.map_nil, ir199, shut_in q0, List.head?_nil, reduceCtorEq, if_false, sExt, sHello, sAnswer, sEdit, sDeal, sBox, sDialed, sKnown]
  generalize hr : (⟨_, [], none⟩ : Ret) = r
  obtain ⟨ea, hea⟩ : ∃ y_, y_ = row fExt l := ⟨_, rfl⟩
  rw [← hea] at hr ⊢
  intro add sub mul arith eq ne lt le gt ge neg conv mn mx not beq len at' ln bd cut app allS isNil mks set o hP F ho
  have la := F.len_at hea
  cbv
  obtain ⟨e0, he0⟩ : ∃ y_, y_ = row fExt (List.replicate l.length (⟨0, []⟩ : Ext)) := ⟨_, rfl⟩
  rw [show mks [.int .i64 0, .row () []] (len ea) (len ea) = some e0 by rw [F.mks, show len ea = _ from la, he0]; exact row_mk (f := fExt) (a := (⟨0, []⟩ : Ext)) rfl (by simp [fExt]) (show l.length ≤ 1099511627776 by omega)]; cbv
  refine loop_ind hP (σ := List (Ext) × List (Ext) × List (List V) × Int) (fun s => [(0, R ea .sh), (2, R [] .nl), (3, R s.2.2.1 (.ow false)), (4, I s.2.2.2)])
    (fun s => At s.2.2.2 s.2.1.length ∧ l = s.2.1 ++ s.1 ∧ s.2.2.1 = row fExt (s.2.1 ++ List.replicate s.1.length (⟨0, []⟩ : Ext))) (fun s => s.1.length) (l, [], e0, 0) rfl ⟨rfl, rfl, by simpa using he0⟩ ?_
  rintro ⟨suf, pre, eo, i⟩ ⟨hi, hl', heo⟩ ih
  simp only at hi hl' heo ih
  cbv
  cases suf with
  | nil =>
    rw [F.lt_f hi la (by simp [hl'])]; cbv
    rw [← hr, heo, hea, hl']; simp
  | cons x suf =>
    rw [F.lt_t hi la (by simp [hl'])]; cbv
    obtain ⟨e1, he1⟩ : ∃ y_, y_ = row fI x.body := ⟨_, rfl⟩
    obtain ⟨ix, hix⟩ : ∃ y_, y_ = pre.length * 2 := ⟨_, rfl⟩
    rw [show at' 2 ea i = some (ix, [.int .i64 x.tag, .row () e1]) by rw [hix, he1]; exact F.get hi hea hl' (fun _ => rfl) (by decide)]; cbv
    have c1 : o 320 [sExt x.tag e1 (.sp 0 1)] = some ⟨[sExt x.tag e1 (.ow false)], [], none⟩ := by rw [ho, he1]; exact ok320 x (w.2 x (by rw [hl']; simp)) rfl
    rw [c1]; cbv
    rw [show at' 2 eo i = some (ix, [.int .i64 0, .row () []]) by rw [hix]; exact F.get hi heo rfl (fun _ => rfl) (by decide)]; cbv
    obtain ⟨eo', heo'⟩ : ∃ y_, y_ = row fExt (pre ++ x :: List.replicate suf.length (⟨0, []⟩ : Ext)) := ⟨_, rfl⟩
    rw [show set eo ix [.int .i64 x.tag, .row () e1] = some eo' by rw [F.set, heo, hix, heo', he1]; exact set_all (fun _ => rfl) rfl]; cbv
    refine ih (suf, pre ++ [x], eo', add .i64 i 1) ⟨at_len (F.inc hi (by simp [hl'] at w1; omega)) (by simp), by simp [hl'], by simp [heo']⟩ (by simp)

/- laws.toHello -/
theorem ok85 (x : Hello) (w : x.Mid) {f0 f1 : Fl} (q0 : inFl f0 = true) (q1 : inFl f1 = true) :
    fix Tb md 85 [sHello (row fI x.versions) (row fExt x.exts) f0 f1] = some ⟨[sHello (row fI x.versions) (row fExt x.exts) (.ow false) (.ow false)], [], none⟩ := by
  refine fix_fn (fn := ir85) tb_85 rfl rfl (by decide) rfl ?_; simp only [shutArgs, shutS, List.map_cons, List.map_nil, ir85, shut_in q0, shut_in q1, List.head?_nil, reduceCtorEq, if_false, sExt, sHello, sAnswer, sEdit, sDeal, sBox, sDialed, sKnown]
  generalize hr : (⟨_, [], none⟩ : Ret) = r
  obtain ⟨e1, he1⟩ : ∃ y_, y_ = row fI x.versions := ⟨_, rfl⟩
  obtain ⟨e2, he2⟩ : ∃ y_, y_ = row fExt x.exts := ⟨_, rfl⟩
  rw [← he1, ← he2] at hr ⊢
  unfold Hello.Mid at w
  intro add sub mul arith eq ne lt le gt ge neg conv mn mx not beq len at' ln bd cut app allS isNil mks set o hP F ho
  have c1 : o 76 [R e1 (.sp 0 0)] = some ⟨[R e1 (.ow false)], [], none⟩ := by rw [ho, he1]; exact ok76 _ (by have := w.1; omega) rfl
  have c2 : o 199 [R e2 (.sp 0 0)] = some ⟨[R e2 (.ow false)], [], none⟩ := by rw [ho, he2]; exact ok199 _ w.2 rfl
  cbv
  rw [c1]; cbv
  rw [c2]; cbv
  exact congrArg some hr

/- laws.FnExactPassPath -/
theorem law44 (path : List Box) (wpath : path.length ≤ 9223372036854775807 ∧ ∀ y ∈ path, y.Fits) (h : Hello) (wh : h.Fits) :
    fix Tb md 44 [R (row fBox path) (.sp 0 0), sHello (row fI h.versions) (row fExt h.exts) (.sp 1 0) (.sp 1 1)] = some ⟨[B true], [], none⟩ := by
  generalize hr : (⟨_, [], none⟩ : Ret) = r
  obtain ⟨e1, he1⟩ : ∃ y_, y_ = row fBox path := ⟨_, rfl⟩
  obtain ⟨e2, he2⟩ : ∃ y_, y_ = row fI h.versions := ⟨_, rfl⟩
  obtain ⟨e3, he3⟩ : ∃ y_, y_ = row fExt h.exts := ⟨_, rfl⟩
  rw [← he1, ← he2, ← he3]
  obtain ⟨v1, hv1⟩ : ∃ y_, y_ = szL szBox path 1048576 := ⟨_, rfl⟩
  have u1 : v1 ≤ 1048576 := by rw [hv1]; exact (Sz.list szBox_Sz path).up (by decide)
  have s1 := fun q : 0 ≤ v1 => (Sz.list szBox_Sz path).ok 1048576 (by decide) (hv1 ▸ q)
  obtain ⟨v2, hv2⟩ : ∃ y_, y_ = szHello h v1 := ⟨_, rfl⟩
  have u2 : v2 ≤ 1048576 := by rw [hv2]; exact (szHello_Sz h).up u1
  have s2 := fun q : 0 ≤ v2 => (szHello_Sz h).ok v1 u1 (hv2 ▸ q)
  obtain ⟨w, hw⟩ : ∃ y_, y_ = ppV path h := ⟨_, rfl⟩
  obtain ⟨w1, hw1⟩ : ∃ y_, y_ = ppOk path h := ⟨_, rfl⟩
  refine fix_fn2 (fn := ir44) tb_44 rfl rfl (by decide) rfl ?_; intro Q hQ; simp only [shutArgs, shutS, List.map_cons, List.map_nil, ir44, List.head?_nil, reduceCtorEq, if_false, sExt, sHello, sAnswer, sEdit, sDeal, sBox, sDialed, sKnown, shut_in (f := .sp 0 0) rfl, shut_in (f := .sp 1 0) rfl, shut_in (f := .sp 1 1) rfl]
  intro add sub mul arith eq ne lt le gt ge neg conv mn mx not beq len at' ln bd cut app allS isNil mks set o hP F ho
  have b1 : o 101 [R e1 (.sp 0 0), I 1048576] = some ⟨[I v1], [], none⟩ := by rw [ho, hv1, he1]; exact ok101 path _ wpath (by decide) (by decide) rfl 
  have b2 : 0 ≤ v1 → o 83 [sHello e2 e3 (.sp 0 0) (.sp 0 1), I v1] = some ⟨[I v2], [], none⟩ := by intro q; rw [ho, hv2, he2, he3]; exact ok83 h _ wh q u1 rfl rfl 
  cbv
  rw [b1]; cbv
  refine both (fun d1 => ?_) (fun d1 => ?_) <;> rw [d1] <;> cbv
  · rw [hQ]; cbv; exact congrArg some hr
  have p1 : 0 ≤ v1 := by simp only [F.lt, decide_eq_false_iff_not] at d1; omega
  have tpath := s1 p1
  have tpathm : path.length ≤ 1073741824 ∧ ∀ y ∈ path, y.Mid := ⟨Nat.le_trans tpath.1 (by decide), fun y hy => (tpath.2 y hy).mid⟩
  have rpath := tpath
  rw [b2 p1]; cbv
  refine both (fun d2 => ?_) (fun d2 => ?_) <;> rw [d2] <;> cbv
  · rw [hQ]; cbv; exact congrArg some hr
  have p2 : 0 ≤ v2 := by simp only [F.lt, decide_eq_false_iff_not] at d2; omega
  have th := s2 p2
  have thm := th.mid
  have rh := th
  unfold Hello.Small at rh
  have kpath : o 103 [R e1 (.sp 0 0)] = some ⟨[R e1 (.ow false)], [], none⟩ := by rw [ho, he1]; exact ok103 path tpathm rfl 
  have qpath : o 105 [R e1 (.sp 0 0), R e1 (.sp 1 0)] = some ⟨[B true], [], none⟩ := by rw [ho, he1]; exact ok105 path tpathm rfl  rfl 
  have kh : o 85 [sHello e2 e3 (.sp 0 0) (.sp 0 1)] = some ⟨[sHello e2 e3 (.ow false) (.ow false)], [], none⟩ := by rw [ho, he2, he3]; exact ok85 h thm rfl rfl 
  have qh : o 78 [sHello e2 e3 (.sp 0 0) (.sp 0 1), sHello e2 e3 (.sp 1 0) (.sp 1 1)] = some ⟨[B true], [], none⟩ := by rw [ho, he2, he3]; exact ok78 h thm rfl rfl  rfl rfl 
  have wm : w.Mid := by rw [hw]; exact ppV_mid thm
  obtain ⟨g0, hg0⟩ : ∃ y_, y_ = row fI w.versions := ⟨_, rfl⟩
  obtain ⟨h0, hh0⟩ : ∃ y_, y_ = row fI ((wHello w 1).versions) := ⟨_, rfl⟩
  obtain ⟨g1, hg1⟩ : ∃ y_, y_ = row fExt w.exts := ⟨_, rfl⟩
  obtain ⟨h1, hh1⟩ : ∃ y_, y_ = row fExt ((wHello w 1).exts) := ⟨_, rfl⟩
  obtain ⟨zz, hzz⟩ : ∃ y_, y_ = 1 + (nHello w : Int) := ⟨_, rfl⟩
  have lr : Lim 1 (nHello w) := Lim.of1 (by have := nHello_mid wm; omega)
  have l2 : lt zz 0 = false := by rw [F.lt, hzz]; simp; omega
  have l3 : ne zz zz = false := F.ne_f rfl
  have a0 : AtK 1 1 0 := AtK.zero
  have y0 := cBoxS_small tpath
  have y1 := nHello_small th
  have lk : Lim 1 (0 + cBoxS path + nHello h) := Lim.of1 (by omega)
  obtain ⟨z1, hz1⟩ : ∃ y_, y_ = 1 + (cBoxS path : Int) := ⟨_, rfl⟩
  have a1 : AtK z1 1 (0 + cBoxS path) := hz1 ▸ a0.plus
  have v1m : Lim 1 (cBoxS path) := a0.lim lk (by omega)
  obtain ⟨x0_0, hx0_0⟩ : ∃ y_, y_ = row fBox (mBoxS path 1) := ⟨_, rfl⟩
  have n1 : o 1172 [R e1 (.mp 0), I 1] = some ⟨[I z1], [.row () x0_0], none⟩ := by rw [ho, hz1, he1, hx0_0]; exact ok1172 _ _ v1m (Nat.le_trans tpathm.1 (by decide)) (fun y hy => Nat.le_trans ((tpathm.2 y hy).1) (by decide)) (fun y hy => Nat.le_trans ((tpathm.2 y hy).2) (by decide))
  obtain ⟨z2, hz2⟩ : ∃ y_, y_ = z1 + (nHello h : Int) := ⟨_, rfl⟩
  have a2 : AtK z2 1 (0 + cBoxS path + nHello h) := hz2 ▸ a1.plus
  have v2m : Lim z1 (nHello h) := a1.lim lk (by omega)
  obtain ⟨x1_0, hx1_0⟩ : ∃ y_, y_ = row fI ((wHello h z1).versions) := ⟨_, rfl⟩
  obtain ⟨x1_1, hx1_1⟩ : ∃ y_, y_ = row fExt ((wHello h z1).exts) := ⟨_, rfl⟩
  have n2 : o 1081 [sHello e2 e3 (.mp 0) (.mp 1), I z1] = some ⟨[I z2], [.row () x1_0, .row () x1_1], none⟩ := by rw [ho, hz2, he2, he3, hx1_0, hx1_1]; exact ok1081 h _ v2m thm
  have l1 : lt z2 0 = false := by rw [F.lt]; have := a2.same; simp; omega
  have hs : (fix Tb md 196 [R (row fBox path) (.sp 0 0), sHello (row fI h.versions) (row fExt h.exts) (.sp 1 0) (.sp 1 1)] = some ⟨[sHello (row fI w.versions) (row fExt w.exts) (.ow false) (.ow false), B w1], [], none⟩) ∨ (w.exts = [] ∧ fix Tb md 196 [R (row fBox path) (.sp 0 0), sHello (row fI h.versions) (row fExt h.exts) (.sp 1 0) (.sp 1 1)] = some ⟨[sHello (row fI w.versions) [] (.ow false) .nl, B w1], [], none⟩) ∨ (w.versions = [] ∧ w.exts = [] ∧ fix Tb md 196 [R (row fBox path) (.sp 0 0), sHello (row fI h.versions) (row fExt h.exts) (.sp 1 0) (.sp 1 1)] = some ⟨[sHello [] [] .nl .nl, B w1], [], none⟩) := by rw [hw, hw1]; exact ok196 path h tpathm.1 tpathm.2 thm rfl rfl rfl
  have hi : (fix Tb md 182 [R (row fBox path) (.sp 0 0), sHello (row fI h.versions) (row fExt h.exts) (.sp 1 0) (.sp 1 1)] = some ⟨[sHello (row fI w.versions) (row fExt w.exts) (.ow false) (.ow false), B w1], [], none⟩) ∨ (w.versions = [] ∧ w.exts = [] ∧ fix Tb md 182 [R (row fBox path) (.sp 0 0), sHello (row fI h.versions) (row fExt h.exts) (.sp 1 0) (.sp 1 1)] = some ⟨[sHello [] [] .nl .nl, B w1], [], none⟩) := by rw [hw, hw1]; exact ok182 path h tpathm.1 tpathm.2 thm rfl rfl rfl
  rcases hs with hs | ⟨ns1, hs⟩ | ⟨ns0, ns1, hs⟩
  · rcases hi with hi | ⟨ni0, ni1, hi⟩
    · have m1 : o 196 [R e1 (.sp 0 0), sHello e2 e3 (.sp 1 0) (.sp 1 1)] = some ⟨[sHello g0 g1 (.ow false) (.ow false), B w1], [], none⟩ := by rw [ho, he1, he2, he3]; simp only [hg0, hg1]; exact hs
      have m2 : o 182 [R e1 (.sp 0 0), sHello e2 e3 (.sp 1 0) (.sp 1 1)] = some ⟨[sHello g0 g1 (.ow false) (.ow false), B w1], [], none⟩ := by rw [ho, he1, he2, he3]; simp only [hg0, hg1]; exact hi
      have r1 : o 78 [sHello g0 g1 (.sp 0 0) (.sp 0 1), sHello g0 g1 (.sp 1 0) (.sp 1 1)] = some ⟨[B true], [], none⟩ := by
        have h := ok78 w wm (f0 := (.sp 0 0)) (g0 := (.sp 1 0)) (f1 := (.sp 0 1)) (g1 := (.sp 1 1)) rfl rfl rfl rfl 
        rw [ho]
        try simp only [hg0, hg1]
        exact h
      have r2 : o 1081 [sHello g0 g1 (.mp 0) (.mp 1), I 1] = some ⟨[I zz], [.row () h0, .row () h1], none⟩ := by
        have h := ok1081 w 1 lr wm
        rw [ho, hzz]
        try simp only [hg0, hg1, hh0, hh1]
        exact h
      have r3 : o 82 [sHello h0 h1 (.sp 0 0) (.sp 0 1), I 1] = some ⟨[I zz], [], none⟩ := by
        have h := ok82 w 1 lr wm (f0 := (.sp 0 0)) (f1 := (.sp 0 1)) rfl rfl 
        rw [ho, hzz]
        try simp only [hh0, hh1]
        exact h
      try (rw [kpath]; cbv)
      try (rw [kh]; cbv)
      try (rw [m1]; cbv)
      try (rw [kpath]; cbv)
      try (rw [kh]; cbv)
      try (rw [m2]; cbv)
      try (rw [r1]; cbv)
      try (rw [show not true = false by rw [F.not]; rfl]; cbv)
      try (rw [show not (beq w1 w1) = false by rw [F.not, F.beq]; simp]; cbv)
      try (rw [kpath]; cbv)
      try (rw [qpath]; cbv)
      try (rw [show not true = false by rw [F.not]; rfl]; cbv)
      try (rw [kh]; cbv)
      try (rw [qh]; cbv)
      try (rw [show not true = false by rw [F.not]; rfl]; cbv)
      try (rw [n1]; cbv)
      try (rw [n2]; cbv)
      try (rw [l1]; cbv)
      try (rw [r1]; cbv)
      try (rw [show not true = false by rw [F.not]; rfl]; cbv)
      try (rw [show not (beq w1 w1) = false by rw [F.not, F.beq]; simp]; cbv)
      try (rw [r2]; cbv)
      try (rw [r3]; cbv)
      try (rw [l2]; cbv)
      try (rw [l3]; cbv)
      try (rw [kpath]; cbv)
      try (rw [kh]; cbv)
      try (rw [m2]; cbv)
      try (rw [r1]; cbv)
      try (rw [show not true = false by rw [F.not]; rfl]; cbv)
      try (rw [show not (beq w1 w1) = false by rw [F.not, F.beq]; simp]; cbv)
      try (rw [r3]; cbv)
      try (rw [l2]; cbv)
      try (rw [l3]; cbv)
      repeat' (first | (rw [kpath]; cbv) | (rw [qpath]; cbv) | (rw [kh]; cbv) | (rw [qh]; cbv) | (rw [m1]; cbv) | (rw [m2]; cbv) | (rw [r1]; cbv) | (rw [n1]; cbv) | (rw [n2]; cbv) | (rw [r2]; cbv) | (rw [r3]; cbv) | (rw [l1]; cbv) | (rw [l2]; cbv) | (rw [l3]; cbv) | (rw [F.ne_f rfl]; cbv) | (rw [show not (beq w1 w1) = false by rw [F.not, F.beq]; simp]; cbv) | (rw [show not true = false by rw [F.not]; rfl]; cbv) | (rw [hQ]; cbv; exact congrArg some hr))
    · have m1 : o 196 [R e1 (.sp 0 0), sHello e2 e3 (.sp 1 0) (.sp 1 1)] = some ⟨[sHello g0 g1 (.ow false) (.ow false), B w1], [], none⟩ := by rw [ho, he1, he2, he3]; simp only [hg0, hg1]; exact hs
      have m2 : o 182 [R e1 (.sp 0 0), sHello e2 e3 (.sp 1 0) (.sp 1 1)] = some ⟨[sHello [] [] .nl .nl, B w1], [], none⟩ := by rw [ho, he1, he2, he3]; exact hi
      have r1 : o 78 [sHello [] [] .nl .nl, sHello g0 g1 (.sp 1 0) (.sp 1 1)] = some ⟨[B true], [], none⟩ := by
        have h := ok78 w wm (f0 := .nl) (g0 := (.sp 1 0)) (f1 := .nl) (g1 := (.sp 1 1)) rfl rfl rfl rfl 
        try simp only [ni0, ni1] at h
        rw [ho]
        try simp only [hg0, hg1, ni0, ni1]
        exact h
      have r2 : o 1081 [sHello [] [] .nl .nl, I 1] = some ⟨[I zz], [], none⟩ := by
        have h := ok1081_nn w 1 lr wm ni0 ni1
        try simp only [wHello, mI, mExtS, ni0, ni1] at h
        rw [ho, hzz]
        try simp only [wHello, mI, mExtS, ni0, ni1]
        exact h
      have r3 : o 82 [sHello [] [] .nl .nl, I 1] = some ⟨[I zz], [], none⟩ := by
        have h := ok82 w 1 lr wm (f0 := .nl) (f1 := .nl) rfl rfl 
        try simp only [wHello, mI, mExtS, ni0, ni1] at h
        rw [ho, hzz]
        try simp only [wHello, mI, mExtS, ni0, ni1]
        exact h
      try (rw [kpath]; cbv)
      try (rw [kh]; cbv)
      try (rw [m1]; cbv)
      try (rw [kpath]; cbv)
      try (rw [kh]; cbv)
      try (rw [m2]; cbv)
      try (rw [r1]; cbv)
      try (rw [show not true = false by rw [F.not]; rfl]; cbv)
      try (rw [show not (beq w1 w1) = false by rw [F.not, F.beq]; simp]; cbv)
      try (rw [kpath]; cbv)
      try (rw [qpath]; cbv)
      try (rw [show not true = false by rw [F.not]; rfl]; cbv)
      try (rw [kh]; cbv)
      try (rw [qh]; cbv)
      try (rw [show not true = false by rw [F.not]; rfl]; cbv)
      try (rw [n1]; cbv)
      try (rw [n2]; cbv)
      try (rw [l1]; cbv)
      try (rw [r1]; cbv)
      try (rw [show not true = false by rw [F.not]; rfl]; cbv)
      try (rw [show not (beq w1 w1) = false by rw [F.not, F.beq]; simp]; cbv)
      try (rw [r2]; cbv)
      try (rw [r3]; cbv)
      try (rw [l2]; cbv)
      try (rw [l3]; cbv)
      try (rw [kpath]; cbv)
      try (rw [kh]; cbv)
      try (rw [m2]; cbv)
      try (rw [r1]; cbv)
      try (rw [show not true = false by rw [F.not]; rfl]; cbv)
      try (rw [show not (beq w1 w1) = false by rw [F.not, F.beq]; simp]; cbv)
      try (rw [r3]; cbv)
      try (rw [l2]; cbv)
      try (rw [l3]; cbv)
      repeat' (first | (rw [kpath]; cbv) | (rw [qpath]; cbv) | (rw [kh]; cbv) | (rw [qh]; cbv) | (rw [m1]; cbv) | (rw [m2]; cbv) | (rw [r1]; cbv) | (rw [n1]; cbv) | (rw [n2]; cbv) | (rw [r2]; cbv) | (rw [r3]; cbv) | (rw [l1]; cbv) | (rw [l2]; cbv) | (rw [l3]; cbv) | (rw [F.ne_f rfl]; cbv) | (rw [show not (beq w1 w1) = false by rw [F.not, F.beq]; simp]; cbv) | (rw [show not true = false by rw [F.not]; rfl]; cbv) | (rw [hQ]; cbv; exact congrArg some hr))
  · rcases hi with hi | ⟨ni0, ni1, hi⟩
    · have m1 : o 196 [R e1 (.sp 0 0), sHello e2 e3 (.sp 1 0) (.sp 1 1)] = some ⟨[sHello g0 [] (.ow false) .nl, B w1], [], none⟩ := by rw [ho, he1, he2, he3]; simp only [hg0]; exact hs
      have m2 : o 182 [R e1 (.sp 0 0), sHello e2 e3 (.sp 1 0) (.sp 1 1)] = some ⟨[sHello g0 g1 (.ow false) (.ow false), B w1], [], none⟩ := by rw [ho, he1, he2, he3]; simp only [hg0, hg1]; exact hi
      have r1 : o 78 [sHello g0 g1 (.sp 0 0) (.sp 0 1), sHello g0 [] (.sp 1 0) .nl] = some ⟨[B true], [], none⟩ := by
        have h := ok78 w wm (f0 := (.sp 0 0)) (g0 := (.sp 1 0)) (f1 := (.sp 0 1)) (g1 := .nl) rfl rfl rfl rfl 
        try simp only [ns1] at h
        rw [ho]
        try simp only [hg0, hg1, ns1]
        exact h
      have r2 : o 1081 [sHello g0 g1 (.mp 0) (.mp 1), I 1] = some ⟨[I zz], [.row () h0, .row () h1], none⟩ := by
        have h := ok1081 w 1 lr wm
        rw [ho, hzz]
        try simp only [hg0, hg1, hh0, hh1]
        exact h
      have r3 : o 82 [sHello h0 h1 (.sp 0 0) (.sp 0 1), I 1] = some ⟨[I zz], [], none⟩ := by
        have h := ok82 w 1 lr wm (f0 := (.sp 0 0)) (f1 := (.sp 0 1)) rfl rfl 
        rw [ho, hzz]
        try simp only [hh0, hh1]
        exact h
      try (rw [kpath]; cbv)
      try (rw [kh]; cbv)
      try (rw [m1]; cbv)
      try (rw [kpath]; cbv)
      try (rw [kh]; cbv)
      try (rw [m2]; cbv)
      try (rw [r1]; cbv)
      try (rw [show not true = false by rw [F.not]; rfl]; cbv)
      try (rw [show not (beq w1 w1) = false by rw [F.not, F.beq]; simp]; cbv)
      try (rw [kpath]; cbv)
      try (rw [qpath]; cbv)
      try (rw [show not true = false by rw [F.not]; rfl]; cbv)
      try (rw [kh]; cbv)
      try (rw [qh]; cbv)
      try (rw [show not true = false by rw [F.not]; rfl]; cbv)
      try (rw [n1]; cbv)
      try (rw [n2]; cbv)
      try (rw [l1]; cbv)
      try (rw [r1]; cbv)
      try (rw [show not true = false by rw [F.not]; rfl]; cbv)
      try (rw [show not (beq w1 w1) = false by rw [F.not, F.beq]; simp]; cbv)
      try (rw [r2]; cbv)
      try (rw [r3]; cbv)
      try (rw [l2]; cbv)
      try (rw [l3]; cbv)
      try (rw [kpath]; cbv)
      try (rw [kh]; cbv)
      try (rw [m2]; cbv)
      try (rw [r1]; cbv)
      try (rw [show not true = false by rw [F.not]; rfl]; cbv)
      try (rw [show not (beq w1 w1) = false by rw [F.not, F.beq]; simp]; cbv)
      try (rw [r3]; cbv)
      try (rw [l2]; cbv)
      try (rw [l3]; cbv)
      repeat' (first | (rw [kpath]; cbv) | (rw [qpath]; cbv) | (rw [kh]; cbv) | (rw [qh]; cbv) | (rw [m1]; cbv) | (rw [m2]; cbv) | (rw [r1]; cbv) | (rw [n1]; cbv) | (rw [n2]; cbv) | (rw [r2]; cbv) | (rw [r3]; cbv) | (rw [l1]; cbv) | (rw [l2]; cbv) | (rw [l3]; cbv) | (rw [F.ne_f rfl]; cbv) | (rw [show not (beq w1 w1) = false by rw [F.not, F.beq]; simp]; cbv) | (rw [show not true = false by rw [F.not]; rfl]; cbv) | (rw [hQ]; cbv; exact congrArg some hr))
    · have m1 : o 196 [R e1 (.sp 0 0), sHello e2 e3 (.sp 1 0) (.sp 1 1)] = some ⟨[sHello g0 [] (.ow false) .nl, B w1], [], none⟩ := by rw [ho, he1, he2, he3]; simp only [hg0]; exact hs
      have m2 : o 182 [R e1 (.sp 0 0), sHello e2 e3 (.sp 1 0) (.sp 1 1)] = some ⟨[sHello [] [] .nl .nl, B w1], [], none⟩ := by rw [ho, he1, he2, he3]; exact hi
      have r1 : o 78 [sHello [] [] .nl .nl, sHello g0 [] (.sp 1 0) .nl] = some ⟨[B true], [], none⟩ := by
        have h := ok78 w wm (f0 := .nl) (g0 := (.sp 1 0)) (f1 := .nl) (g1 := .nl) rfl rfl rfl rfl 
        try simp only [ni0, ni1] at h
        rw [ho]
        try simp only [hg0, hg1, ni0, ni1]
        exact h
      have r2 : o 1081 [sHello [] [] .nl .nl, I 1] = some ⟨[I zz], [], none⟩ := by
        have h := ok1081_nn w 1 lr wm ni0 ni1
        try simp only [wHello, mI, mExtS, ni0, ni1] at h
        rw [ho, hzz]
        try simp only [wHello, mI, mExtS, ni0, ni1]
        exact h
      have r3 : o 82 [sHello [] [] .nl .nl, I 1] = some ⟨[I zz], [], none⟩ := by
        have h := ok82 w 1 lr wm (f0 := .nl) (f1 := .nl) rfl rfl 
        try simp only [wHello, mI, mExtS, ni0, ni1] at h
        rw [ho, hzz]
        try simp only [wHello, mI, mExtS, ni0, ni1]
        exact h
      try (rw [kpath]; cbv)
      try (rw [kh]; cbv)
      try (rw [m1]; cbv)
      try (rw [kpath]; cbv)
      try (rw [kh]; cbv)
      try (rw [m2]; cbv)
      try (rw [r1]; cbv)
      try (rw [show not true = false by rw [F.not]; rfl]; cbv)
      try (rw [show not (beq w1 w1) = false by rw [F.not, F.beq]; simp]; cbv)
      try (rw [kpath]; cbv)
      try (rw [qpath]; cbv)
      try (rw [show not true = false by rw [F.not]; rfl]; cbv)
      try (rw [kh]; cbv)
      try (rw [qh]; cbv)
      try (rw [show not true = false by rw [F.not]; rfl]; cbv)
      try (rw [n1]; cbv)
      try (rw [n2]; cbv)
      try (rw [l1]; cbv)
      try (rw [r1]; cbv)
      try (rw [show not true = false by rw [F.not]; rfl]; cbv)
      try (rw [show not (beq w1 w1) = false by rw [F.not, F.beq]; simp]; cbv)
      try (rw [r2]; cbv)
      try (rw [r3]; cbv)
      try (rw [l2]; cbv)
      try (rw [l3]; cbv)
      try (rw [kpath]; cbv)
      try (rw [kh]; cbv)
      try (rw [m2]; cbv)
      try (rw [r1]; cbv)
      try (rw [show not true = false by rw [F.not]; rfl]; cbv)
      try (rw [show not (beq w1 w1) = false by rw [F.not, F.beq]; simp]; cbv)
      try (rw [r3]; cbv)
      try (rw [l2]; cbv)
      try (rw [l3]; cbv)
      repeat' (first | (rw [kpath]; cbv) | (rw [qpath]; cbv) | (rw [kh]; cbv) | (rw [qh]; cbv) | (rw [m1]; cbv) | (rw [m2]; cbv) | (rw [r1]; cbv) | (rw [n1]; cbv) | (rw [n2]; cbv) | (rw [r2]; cbv) | (rw [r3]; cbv) | (rw [l1]; cbv) | (rw [l2]; cbv) | (rw [l3]; cbv) | (rw [F.ne_f rfl]; cbv) | (rw [show not (beq w1 w1) = false by rw [F.not, F.beq]; simp]; cbv) | (rw [show not true = false by rw [F.not]; rfl]; cbv) | (rw [hQ]; cbv; exact congrArg some hr))
  · rcases hi with hi | ⟨ni0, ni1, hi⟩
    · have m1 : o 196 [R e1 (.sp 0 0), sHello e2 e3 (.sp 1 0) (.sp 1 1)] = some ⟨[sHello [] [] .nl .nl, B w1], [], none⟩ := by rw [ho, he1, he2, he3]; exact hs
      have m2 : o 182 [R e1 (.sp 0 0), sHello e2 e3 (.sp 1 0) (.sp 1 1)] = some ⟨[sHello g0 g1 (.ow false) (.ow false), B w1], [], none⟩ := by rw [ho, he1, he2, he3]; simp only [hg0, hg1]; exact hi
      have r1 : o 78 [sHello g0 g1 (.sp 0 0) (.sp 0 1), sHello [] [] .nl .nl] = some ⟨[B true], [], none⟩ := by
        have h := ok78 w wm (f0 := (.sp 0 0)) (g0 := .nl) (f1 := (.sp 0 1)) (g1 := .nl) rfl rfl rfl rfl 
        try simp only [ns0, ns1] at h
        rw [ho]
        try simp only [hg0, hg1, ns0, ns1]
        exact h
      have r2 : o 1081 [sHello g0 g1 (.mp 0) (.mp 1), I 1] = some ⟨[I zz], [.row () h0, .row () h1], none⟩ := by
        have h := ok1081 w 1 lr wm
        rw [ho, hzz]
        try simp only [hg0, hg1, hh0, hh1]
        exact h
      have r3 : o 82 [sHello h0 h1 (.sp 0 0) (.sp 0 1), I 1] = some ⟨[I zz], [], none⟩ := by
        have h := ok82 w 1 lr wm (f0 := (.sp 0 0)) (f1 := (.sp 0 1)) rfl rfl 
        rw [ho, hzz]
        try simp only [hh0, hh1]
        exact h
      try (rw [kpath]; cbv)
      try (rw [kh]; cbv)
      try (rw [m1]; cbv)
      try (rw [kpath]; cbv)
      try (rw [kh]; cbv)
      try (rw [m2]; cbv)
      try (rw [r1]; cbv)
      try (rw [show not true = false by rw [F.not]; rfl]; cbv)
      try (rw [show not (beq w1 w1) = false by rw [F.not, F.beq]; simp]; cbv)
      try (rw [kpath]; cbv)
      try (rw [qpath]; cbv)
      try (rw [show not true = false by rw [F.not]; rfl]; cbv)
      try (rw [kh]; cbv)
      try (rw [qh]; cbv)
      try (rw [show not true = false by rw [F.not]; rfl]; cbv)
      try (rw [n1]; cbv)
      try (rw [n2]; cbv)
      try (rw [l1]; cbv)
      try (rw [r1]; cbv)
      try (rw [show not true = false by rw [F.not]; rfl]; cbv)
      try (rw [show not (beq w1 w1) = false by rw [F.not, F.beq]; simp]; cbv)
      try (rw [r2]; cbv)
      try (rw [r3]; cbv)
      try (rw [l2]; cbv)
      try (rw [l3]; cbv)
      try (rw [kpath]; cbv)
      try (rw [kh]; cbv)
      try (rw [m2]; cbv)
      try (rw [r1]; cbv)
      try (rw [show not true = false by rw [F.not]; rfl]; cbv)
      try (rw [show not (beq w1 w1) = false by rw [F.not, F.beq]; simp]; cbv)
      try (rw [r3]; cbv)
      try (rw [l2]; cbv)
      try (rw [l3]; cbv)
      repeat' (first | (rw [kpath]; cbv) | (rw [qpath]; cbv) | (rw [kh]; cbv) | (rw [qh]; cbv) | (rw [m1]; cbv) | (rw [m2]; cbv) | (rw [r1]; cbv) | (rw [n1]; cbv) | (rw [n2]; cbv) | (rw [r2]; cbv) | (rw [r3]; cbv) | (rw [l1]; cbv) | (rw [l2]; cbv) | (rw [l3]; cbv) | (rw [F.ne_f rfl]; cbv) | (rw [show not (beq w1 w1) = false by rw [F.not, F.beq]; simp]; cbv) | (rw [show not true = false by rw [F.not]; rfl]; cbv) | (rw [hQ]; cbv; exact congrArg some hr))
    · have m1 : o 196 [R e1 (.sp 0 0), sHello e2 e3 (.sp 1 0) (.sp 1 1)] = some ⟨[sHello [] [] .nl .nl, B w1], [], none⟩ := by rw [ho, he1, he2, he3]; exact hs
      have m2 : o 182 [R e1 (.sp 0 0), sHello e2 e3 (.sp 1 0) (.sp 1 1)] = some ⟨[sHello [] [] .nl .nl, B w1], [], none⟩ := by rw [ho, he1, he2, he3]; exact hi
      have r1 : o 78 [sHello [] [] .nl .nl, sHello [] [] .nl .nl] = some ⟨[B true], [], none⟩ := by
        have h := ok78 w wm (f0 := .nl) (g0 := .nl) (f1 := .nl) (g1 := .nl) rfl rfl rfl rfl 
        try simp only [ni0, ni1] at h
        rw [ho]
        try simp only [hg0, hg1, ni0, ni1]
        exact h
      have r2 : o 1081 [sHello [] [] .nl .nl, I 1] = some ⟨[I zz], [], none⟩ := by
        have h := ok1081_nn w 1 lr wm ni0 ni1
        try simp only [wHello, mI, mExtS, ni0, ni1] at h
        rw [ho, hzz]
        try simp only [wHello, mI, mExtS, ni0, ni1]
        exact h
      have r3 : o 82 [sHello [] [] .nl .nl, I 1] = some ⟨[I zz], [], none⟩ := by
        have h := ok82 w 1 lr wm (f0 := .nl) (f1 := .nl) rfl rfl 
        try simp only [wHello, mI, mExtS, ni0, ni1] at h
        rw [ho, hzz]
        try simp only [wHello, mI, mExtS, ni0, ni1]
        exact h
      try (rw [kpath]; cbv)
      try (rw [kh]; cbv)
      try (rw [m1]; cbv)
      try (rw [kpath]; cbv)
      try (rw [kh]; cbv)
      try (rw [m2]; cbv)
      try (rw [r1]; cbv)
      try (rw [show not true = false by rw [F.not]; rfl]; cbv)
      try (rw [show not (beq w1 w1) = false by rw [F.not, F.beq]; simp]; cbv)
      try (rw [kpath]; cbv)
      try (rw [qpath]; cbv)
      try (rw [show not true = false by rw [F.not]; rfl]; cbv)
      try (rw [kh]; cbv)
      try (rw [qh]; cbv)
      try (rw [show not true = false by rw [F.not]; rfl]; cbv)
      try (rw [n1]; cbv)
      try (rw [n2]; cbv)
      try (rw [l1]; cbv)
      try (rw [r1]; cbv)
      try (rw [show not true = false by rw [F.not]; rfl]; cbv)
      try (rw [show not (beq w1 w1) = false by rw [F.not, F.beq]; simp]; cbv)
      try (rw [r2]; cbv)
      try (rw [r3]; cbv)
      try (rw [l2]; cbv)
      try (rw [l3]; cbv)
      try (rw [kpath]; cbv)
      try (rw [kh]; cbv)
      try (rw [m2]; cbv)
      try (rw [r1]; cbv)
      try (rw [show not true = false by rw [F.not]; rfl]; cbv)
      try (rw [show not (beq w1 w1) = false by rw [F.not, F.beq]; simp]; cbv)
      try (rw [r3]; cbv)
      try (rw [l2]; cbv)
      try (rw [l3]; cbv)
      repeat' (first | (rw [kpath]; cbv) | (rw [qpath]; cbv) | (rw [kh]; cbv) | (rw [qh]; cbv) | (rw [m1]; cbv) | (rw [m2]; cbv) | (rw [r1]; cbv) | (rw [n1]; cbv) | (rw [n2]; cbv) | (rw [r2]; cbv) | (rw [r3]; cbv) | (rw [l1]; cbv) | (rw [l2]; cbv) | (rw [l3]; cbv) | (rw [F.ne_f rfl]; cbv) | (rw [show not (beq w1 w1) = false by rw [F.not, F.beq]; simp]; cbv) | (rw [show not true = false by rw [F.not]; rfl]; cbv) | (rw [hQ]; cbv; exact congrArg some hr))
theorem ans44 : Answers Tb md 44 [(false, [.row [.int .i64, .row [.int .i64], .row [.int .i64], .bool]]), (true, [.row [.int .i64], .row [.int .i64, .row [.int .i64]]])] := answers_of (by
  intro vs h_
  obtain ⟨_, _, rfl, h1_, h_⟩ := fitL_cons h_
  cases fitL_nil h_
  obtain ⟨path, rfl, wpath⟩ := fit_row (fun _ => fitL_Box) h1_
  intro vs h_
  obtain ⟨h, rfl, wh⟩ := fitL_Hello h_
  exact law44 path wpath h wh)

end Go.Vm
