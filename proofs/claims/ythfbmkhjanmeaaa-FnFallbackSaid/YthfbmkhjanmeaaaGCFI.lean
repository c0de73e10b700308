/- What the functions answer. -/
import Derived.Test.YthfbmkhjanmeaaaGCTab
import Derived.Test.YthfbmkhjanmeaaaGCFA
import Derived.Test.YthfbmkhjanmeaaaGCFB
import Derived.Test.YthfbmkhjanmeaaaGCFC
import Derived.Test.YthfbmkhjanmeaaaGCFD
import Derived.Test.YthfbmkhjanmeaaaGCFE
import Derived.Test.YthfbmkhjanmeaaaGCFF
import Derived.Test.YthfbmkhjanmeaaaGCFH
set_option maxHeartbeats 4000000
set_option maxRecDepth 10000
set_option linter.unusedVariables false
set_option linter.unusedSimpArgs false
namespace Go.Vm
theorem ppGo_plain : ∀ {p : List Box} {vs : List Int}, (ppGo p ⟨vs, []⟩).2 = true → ∀ b ∈ p, pbOk b ⟨vs, []⟩ = true
 | [], _, _ => by simp
 | b :: p, vs, e => by
  unfold ppGo at e
  split at e
  ·rename_i q
   have hv : pbV b ⟨vs, []⟩ = ⟨vs, []⟩ := by unfold pbV; rw [if_pos q]; rfl
   rw [hv] at e
   intro c hc
   rcases List.mem_cons.1 hc with rfl | hc
   ·exact q
   ·exact ppGo_plain e c hc
  ·cases e
theorem ppOk_go {p : List Box} {h : Hello} (e : ppOk p h = true) : (ppGo p h).2 = true := by
 unfold ppOk pp at e
 split at e
 ·exact e
 ·cases e
theorem pw_go {p : List Box} {h : Hello} (e : pw h p = true) : ppGo p h = (h, true) := by
 unfold pw at e
 rw [Bool.and_eq_true, decide_eq_true_eq] at e
 obtain ⟨e1, e2⟩ := e
 unfold ppOk at e1
 unfold ppV at e2
 unfold pp at e1 e2
 split at e1
 ·rename_i q
  rw [if_pos q] at e2
  exact Prod.ext e2 e1
 ·cases e1
theorem ppGo_parts {p : List Box} {h : Hello} (hh : isHel h = true) (hv : ∀ v ∈ h.versions, ppOk p ⟨[v], []⟩ = true) (hx : ∀ e ∈ h.exts, ∃ v0, pw ⟨[v0], [e]⟩ p = true) : ppGo p h = (h, true) := by
 obtain ⟨q, y, h1, h2⟩ := isHel_ne hh
 have hy := ppGo_plain (ppOk_go (hv y (by rw [h1]; simp)))
 have he : ∀ b ∈ p, ∀ e ∈ h.exts, lost b e = false ∧ stripE b.strips e = true := by
  intro b hb e he
  obtain ⟨v0, hw⟩ := hx e he
  obtain ⟨q1, q2⟩ := ppGo_whole (pw_go hw) b hb
  refine ⟨?_, q2 e (by simp)⟩
  unfold pbOk at q1
  simp only [Bool.and_eq_true, Bool.not_eq_true', List.any_cons, List.any_nil, Bool.or_false] at q1
  exact q1.2
 refine ppGo_all (fun b hb => ⟨?_, fun e h' => (he b hb e h').2⟩)
 have k := hy b hb
 unfold pbOk at k ⊢
 simp only [Bool.and_eq_true, Bool.not_eq_true'] at k ⊢
 refine ⟨⟨⟨k.1.1.1, hh⟩, ?_⟩, ?_⟩
 ·have := k.1.2
  unfold overL at this ⊢
  rw [h2]
  exact this
 ·rw [List.any_eq_false]
  intro e h'
  rw [(he b hb e h').1]; simp
theorem hasI_lvs {p : List Box} {l : List Int} (h : areVer l = true) {v : Int} (hv : v ∈ l) : hasI (lvs p l) v = deadV p v := by
 rw [Bool.eq_iff_iff, hasI_iff]
 unfold lvs
 rw [if_pos h, sel_idI, List.mem_filter]
 exact ⟨fun q => q.2, fun q => ⟨hv, q⟩⟩
theorem left_lvs {p : List Box} {l : List Int} (h : areVer l = true) : l.filter (notIn (lvs p l)) = l.filter (fun v => !deadV p v) :=
 List.filter_congr fun v hv => by unfold notIn; rw [hasI_lvs h hv]
theorem hel_ver {h : Hello} (hh : isHel h = true) : areVer h.versions = true := by unfold isHel at hh; simp only [Bool.and_eq_true] at hh; exact hh.1
theorem hel_ex {h : Hello} (hh : isHel h = true) : areEx h.exts = true := by unfold isHel at hh; simp only [Bool.and_eq_true] at hh; exact hh.2
theorem find_tag : ∀ {l : List Ext} {e : Ext}, l.Pairwise (fun x y => x.tag ≠ y.tag) → e ∈ l → l.find? (tagP e.tag) = some e
 | [], _, _, h => by simp at h
 | y :: l, e, hp, h => by
  rw [List.pairwise_cons] at hp
  rw [List.find?_cons]
  rcases List.mem_cons.1 h with rfl | h
  ·rw [show tagP e.tag e = true by simp [tagP]]
  ·rw [show tagP e.tag y = false by simp [tagP]; exact hp.1 e h]
   exact find_tag hp.2 h
theorem tag_inj {l : List Ext} (h : areEx l = true) {a b : Ext} (ha : a ∈ l) (hb : b ∈ l) (e : a.tag = b.tag) : a = b := by
 have h1 := find_tag (areEx_iff.1 h).2.1 ha
 have h2 := find_tag (areEx_iff.1 h).2.1 hb
 rw [e, h2] at h1
 exact (Option.some.inj h1).symm
theorem isPart_sub {x h : Hello} (he : areEx h.exts = true) (h1 : ∀ v ∈ x.versions, v ∈ h.versions) (h2 : ∀ e ∈ x.exts, e ∈ h.exts) : isPart x h = true := by
 unfold isPart
 rw [Bool.and_eq_true, List.all_eq_true, List.all_eq_true]
 refine ⟨fun v hv => hasI_iff.2 (h1 v hv), fun e hx => ?_⟩
 unfold bodyOk
 rw [find_tag (areEx_iff.1 he).2.1 (h2 e hx)]
 simp
theorem fb_good {h : Hello} {p : List Box} (hh : isHel h = true) (hl : p.length ≤ 4) (q : fbOk h p = true) : pw (fbV h p) p = true := by
 have hver := hel_ver hh
 have hex := hel_ex hh
 have e : fbV h p = ⟨h.versions.filter (notIn (fbL h p)), h.exts.filter (notTagIn (fbT h p))⟩ := by
  unfold fbV partV
  rw [if_pos (show partOk h (fbL h p) = true from q), sel_idI, sel_idE]
 have hgood := (part_good (tg := fbT h p) (show partOk h (fbL h p) = true from q)).1
 rw [show partV h (fbL h p) (fbT h p) = fbV h p from rfl] at hgood
 have q2 := q
 unfold fbOk partOk at q2
 rw [sel_idI] at q2
 simp only [Bool.and_eq_true, Bool.not_eq_true', decide_eq_false_iff_not] at q2
 obtain ⟨V, hV⟩ := nm (h.versions.filter (notIn (fbL h p)))
 rw [← hV] at e q2
 have hm : ∀ v ∈ V, ppOk p ⟨[v], []⟩ = true := by
  intro v hv
  rw [hV, show fbL h p = lvs p h.versions from rfl, left_lvs hver] at hv
  have := (List.mem_filter.1 hv).2
  unfold deadV at this
  simpa using this
 have hgo : ppGo p (fbV h p) = (fbV h p, true) := by
  refine ppGo_parts hgood ?_ ?_
  ·rw [e]; exact hm
  ·rw [e]
   intro x hx
   obtain ⟨hx1, hx2⟩ := List.mem_filter.1 hx
   cases hVe : V with
   | nil => rw [hVe] at q2; simp at q2
   | cons v0 t =>
    refine ⟨v0, ?_⟩
    unfold notTagIn fbT at hx2
    rw [sel_idI, ← hV] at hx2
    have hav : areVer V = true := by
     rw [hV]
     exact areVer_sel hver (by rw [← hV, hVe]; simp)
    have hio : iop p V = true := by
     unfold iop
     rw [hav, hVe]
     exact hm v0 (by rw [hVe]; simp)
    unfold ltags at hx2
    rw [hex, hio] at hx2
    rw [show (true && true) = true from rfl, if_pos rfl] at hx2
    simp only [Bool.not_eq_true', ← Bool.not_eq_true, hasI_iff] at hx2
    have hd : deadE p V x = false := by
     rw [← Bool.not_eq_true]
     intro hd
     exact hx2 (by unfold sel; exact List.mem_map.2 ⟨x, List.mem_filter.2 ⟨hx1, hd⟩, rfl⟩)
    unfold deadE at hd
    rw [hVe] at hd
    simpa using hd
 unfold pw
 obtain ⟨a, b⟩ := ppOk_of hl hgood hgo
 rw [a, b]
 simp
theorem pw_none {h : Hello} {p : List Box} (q : pw h p = true) : lvs p h.versions = [] ∧ ∀ x, x = h.exts → ltags p h.versions x = [] := by
 unfold pw at q
 rw [Bool.and_eq_true, decide_eq_true_eq] at q
 obtain ⟨a, b⟩ := lost_whole (p := p) (v := h.versions) (x := h.exts) q.1 q.2
 exact ⟨a, fun x e => by rw [e]; exact b⟩
theorem fl_nI {l : List Int} : l.filter (notIn []) = l := List.filter_eq_self.2 (fun _ _ => rfl)
theorem fl_nT {l : List Ext} : l.filter (notTagIn []) = l := List.filter_eq_self.2 (fun _ _ => rfl)
theorem hel_pos {h : Hello} (hh : isHel h = true) : 0 < h.versions.length := by
 obtain ⟨q, y, h1, _⟩ := isHel_ne hh
 rw [h1]; simp
theorem fb_whole {h : Hello} {p : List Box} (hh : isHel h = true) (q : pw h p = true) : fbOk h p = true ∧ fbV h p = h := by
 obtain ⟨a, b⟩ := pw_none q
 have e1 : fbL h p = [] := a
 have e2 : fbT h p = [] := by
  unfold fbT
  rw [e1, sel_idI, fl_nI]
  exact b _ rfl
 have hp := hel_pos hh
 have e3 : fbOk h p = true := by
  unfold fbOk partOk
  rw [e1, sel_idI, fl_nI, hh]
  simp; intro e; rw [e] at hp; simp at hp
 refine ⟨e3, ?_⟩
 unfold fbV partV
 rw [if_pos (show partOk h (fbL h p) = true from e3), e1, e2, sel_idI, sel_idE, fl_nI, fl_nT]
theorem fl_ok {h : Hello} {p : List Box} (hh : isHel h = true) (hl : p.length ≤ 4) : hfOk h p = decide ((lvs p h.versions).length < h.versions.length) ∧ fbOk h p = hfOk h p := by
 have hver := hel_ver hh
 have hB : fbOk h p = decide ((lvs p h.versions).length < h.versions.length) := by
  unfold fbOk partOk
  rw [hh, sel_idI, show fbL h p = lvs p h.versions from rfl, left_lvs hver]
  have e : (lvs p h.versions).length = (h.versions.filter (deadV p)).length := by unfold lvs; rw [if_pos hver, sel_idI]
  have s : h.versions.length = (h.versions.filter (deadV p)).length + (h.versions.filter (fun v => !deadV p v)).length := by
   have := List.length_eq_countP_add_countP (deadV p) (l := h.versions)
   rw [List.countP_eq_length_filter, List.countP_eq_length_filter] at this
   simpa using this
  rw [e, Bool.eq_iff_iff]
  simp only [Bool.true_and, Bool.not_eq_true', decide_eq_false_iff_not, decide_eq_true_eq]
  omega
 cases hw : pw h p with
 | true =>
  have := (hf_b hh hw).1
  have h2 := (fb_whole hh hw).1
  rw [this, ← hB, h2]
  exact ⟨rfl, rfl⟩
 | false =>
  have e : hfOk h p = fbOk h p := by
   unfold hfOk hfC
   rw [hh, hw]
   cases hq : fbOk h p with
   | true => rw [fb_good hh hl hq]; rfl
   | false => rfl
  rw [e]
  exact ⟨hB, rfl⟩
theorem fl_two {h : Hello} {p : List Box} (hh : isHel h = true) (q : hfOk h p = false) : hfN h p = 2 := by
 cases hw : pw h p with
 | true => rw [(hf_b hh hw).1] at q; cases q
 | false => unfold hfN; rw [if_pos hh, hw]; rfl
theorem fl_one {h : Hello} {p : List Box} (hh : isHel h = true) (q : hfOk h p = true) : fbV h p = hfV h p ∧ pw (hfV h p) p = true ∧ isPart (hfV h p) h = true ∧ decide (hfN h p = 1) = decide (hfV h p = h) := by
 have hex := hel_ex hh
 cases hw : pw h p with
 | true =>
  obtain ⟨_, e2, e3⟩ := hf_b hh hw
  obtain ⟨f1, f2⟩ := fb_whole hh hw
  rw [e2, e3, f2]
  exact ⟨rfl, hw, isPart_sub hex (fun _ h => h) (fun _ h => h), by simp⟩
 | false =>
  have hc : hfC h p = true := by
   unfold hfOk at q
   rw [hh, hw] at q
   simpa using q
  obtain ⟨_, e2, e3⟩ := hf_d hh hw hc
  have hc2 := hc
  unfold hfC at hc2
  rw [Bool.and_eq_true] at hc2
  rw [e2, e3]
  have e : fbV h p = ⟨h.versions.filter (notIn (fbL h p)), h.exts.filter (notTagIn (fbT h p))⟩ := by
   unfold fbV partV
   rw [if_pos (show partOk h (fbL h p) = true from hc2.1), sel_idI, sel_idE]
  refine ⟨rfl, hc2.2, isPart_sub hex ?_ ?_, ?_⟩
  ·rw [e]; exact fun v hv => (List.mem_filter.1 hv).1
  ·rw [e]; exact fun v hv => (List.mem_filter.1 hv).1
  ·have hne : ¬ fbV h p = h := fun e => by rw [e, hw] at hc2; exact absurd hc2.2 (by simp)
   simp [hne]
theorem fl_clear {h : Hello} {p : List Box} (hh : isHel h = true) (c : isCP p = true) : hfN h p = 1 := by
 have hw : pw h p = true := by
  unfold isCP at c
  rw [Bool.and_eq_true, decide_eq_true_eq] at c
  unfold pw
  obtain ⟨a, b⟩ := ppOk_of c.2 hh (ppGo_clear c.1 hh)
  rw [a, b]; simp
 exact (hf_b hh hw).2.1
theorem fl_up {h : Hello} {p : List Box} (hh : isHel h = true) (q : hfOk h p = true) : givenV h (hfV h p) = lvs p h.versions ++ (ltags p (leftV h.versions (lvs p h.versions)) h.exts).map (fun t => 1000 + t) := by
 have hver := hel_ver hh
 have hex := hel_ex hh
 obtain ⟨g1, g2, g3⟩ := areEx_iff.1 hex
 cases hw : pw h p with
 | true =>
  obtain ⟨a, b⟩ := pw_none hw
  rw [(hf_b hh hw).2.2, a, show leftV h.versions [] = h.versions from fl_nI, b _ rfl]
  unfold givenV
  have e1 : sel (notIn h.versions) idI h.versions = [] := by
   rw [sel_idI, List.filter_eq_nil_iff]
   intro v hv
   unfold notIn
   rw [hasI_iff.2 hv]; simp
  have e2 : sel (gaP h) gaF h.exts = [] := by
   unfold sel
   rw [List.map_eq_nil_iff, List.filter_eq_nil_iff]
   intro e he
   unfold gaP
   rw [decide_eq_false (find_some_of he)]; simp
  rw [e1, e2]; rfl
 | false =>
  have hc : hfC h p = true := by
   unfold hfOk at q
   rw [hh, hw] at q
   simpa using q
  rw [(hf_d hh hw hc).2.2]
  unfold hfC at hc
  rw [Bool.and_eq_true] at hc
  have e : fbV h p = ⟨h.versions.filter (notIn (fbL h p)), h.exts.filter (notTagIn (fbT h p))⟩ := by
   unfold fbV partV
   rw [if_pos (show partOk h (fbL h p) = true from hc.1), sel_idI, sel_idE]
  have q2 := hc.1
  unfold fbOk partOk at q2
  rw [sel_idI] at q2
  simp only [Bool.and_eq_true, Bool.not_eq_true', decide_eq_false_iff_not] at q2
  have eL : leftV h.versions (lvs p h.versions) = h.versions.filter (notIn (fbL h p)) := rfl
  obtain ⟨V, hV⟩ := nm (h.versions.filter (notIn (fbL h p)))
  have eT : fbT h p = ltags p V h.exts := by unfold fbT; rw [sel_idI, ← hV]
  rw [eL, ← hV, ← eT]
  unfold givenV
  rw [e]
  congr 1
  ·show sel (notIn (h.versions.filter (notIn (fbL h p)))) idI h.versions = lvs p h.versions
   unfold lvs
   rw [if_pos hver, sel_idI, sel_idI]
   refine List.filter_congr fun v hv => ?_
   have h1 := hasI_lvs (p := p) hver hv
   rw [Bool.eq_iff_iff]
   unfold notIn
   simp only [Bool.not_eq_true', ← Bool.not_eq_true, hasI_iff, List.mem_filter, ← h1]
   rw [show fbL h p = lvs p h.versions from rfl]
   simp only [not_and, hv, true_implies, Bool.not_eq_true, hasI_iff]
   simp
  ·have hav : areVer V = true := by
    rw [hV]
    exact areVer_sel hver (fun e => q2.2 (by rw [e]; rfl))
   have hio : iop p V = true := by
    unfold iop
    rw [hav]
    cases hVe : V with
    | nil => rw [hVe] at hav; simp [areVer] at hav
    | cons v0 t =>
     have hm : v0 ∈ V := by rw [hVe]; simp
     rw [hV, show fbL h p = lvs p h.versions from rfl, left_lvs hver] at hm
     have := (List.mem_filter.1 hm).2
     unfold deadV at this
     simpa using this
   have eT2 : fbT h p = sel (deadE p V) Ext.tag h.exts := by rw [eT]; unfold ltags; rw [hex, hio]; rfl
   have mT : ∀ x ∈ h.exts, (x.tag ∈ fbT h p ↔ deadE p V x = true) := by
    intro x hx
    rw [eT2]
    unfold sel
    rw [List.mem_map]
    constructor
    ·rintro ⟨y, hy, e⟩
     rw [List.mem_filter] at hy
     have := tag_inj hex hy.1 hx e
     rw [← this]; exact hy.2
    ·exact fun hd => ⟨x, List.mem_filter.2 ⟨hx, hd⟩, rfl⟩
   have key : h.exts.filter (gaP ⟨h.versions.filter (notIn (fbL h p)), h.exts.filter (notTagIn (fbT h p))⟩) = h.exts.filter (deadE p V) := by
    refine List.filter_congr fun x hx => ?_
    have hr : inR x.tag 0 255 = true := by
     have := g1 x hx
     unfold gEx at this
     simp only [Bool.and_eq_true] at this
     exact this.1.1
    unfold gaP
    rw [hr, Bool.and_true]
    cases hd : deadE p V x with
    | true =>
     refine decide_eq_true (find_none_of fun y hy e => ?_)
     have hy2 := (List.mem_filter.1 hy).2
     unfold notTagIn at hy2
     rw [e, hasI_iff.2 ((mT x hx).2 hd)] at hy2
     simp at hy2
    | false =>
     refine decide_eq_false (find_some_of (List.mem_filter.2 ⟨hx, ?_⟩))
     unfold notTagIn
     rw [Bool.not_eq_true', ← Bool.not_eq_true, hasI_iff, mT x hx, hd]
     simp
   unfold sel
   rw [key, eT2]
   unfold sel
   rw [List.map_map]
   rfl
theorem fl_mem {h : Hello} {p : List Box} (hh : isHel h = true) (q : hfOk h p = true) : ∀ u ∈ givenV h (hfV h p), (u < 1000 ∧ hasI (lvs p h.versions) u = true) ∨ (1000 ≤ u ∧ u ≤ 1255 ∧ hasI (ltags p (leftV h.versions (lvs p h.versions)) h.exts) (u - 1000) = true) := by
 intro u hu
 rw [fl_up hh q] at hu
 rcases List.mem_append.1 hu with hu | hu
 ·left
  refine ⟨?_, hasI_iff.2 hu⟩
  unfold lvs at hu
  rw [if_pos (hel_ver hh), sel_idI] at hu
  have := (areVer_asc (hel_ver hh)).2 u (List.mem_filter.1 hu).1
  omega
 ·right
  obtain ⟨t, ht, rfl⟩ := List.mem_map.1 hu
  have hr : 0 ≤ t ∧ t ≤ 255 := by
   have ht' := ht
   unfold ltags at ht'
   split at ht'
   ·unfold sel at ht'
    obtain ⟨x, hx, rfl⟩ := List.mem_map.1 ht'
    have := (areEx_iff.1 (hel_ex hh)).1 x (List.mem_filter.1 hx).1
    unfold gEx at this
    simp only [Bool.and_eq_true] at this
    have := this.1.1
    unfold inR at this
    simpa using this
   ·simp at ht'
  refine ⟨by omega, by omega, ?_⟩
  rw [show 1000 + t - 1000 = t by omega]
  exact hasI_iff.2 ht
theorem fl_len {h : Hello} {p : List Box} (hh : isHel h = true) (q : hfOk h p = true) : (givenV h (hfV h p)).length = (lvs p h.versions).length + (ltags p (leftV h.versions (lvs p h.versions)) h.exts).length := by
 rw [fl_up hh q]; simp
theorem hf_cases (h : Hello) (p : List Box) : (hfV h p) = h ∨ ((hfV h p).versions.length ≤ (fbV h p).versions.length ∧ (hfV h p).exts.length ≤ (fbV h p).exts.length) := by
 unfold hfV
 split
 ·split
  ·exact .inl rfl
  ·split
   ·exact .inr ⟨Nat.le_refl _, Nat.le_refl _⟩
   ·exact .inr ⟨by simp, by simp⟩
 ·exact .inr ⟨by simp, by simp⟩
theorem fbV_len (h : Hello) (p : List Box) : (fbV h p).versions.length ≤ h.versions.length ∧ (fbV h p).exts.length ≤ h.exts.length := by
 unfold fbV partV
 split
 ·exact ⟨sel_len, sel_len⟩
 ·simp
theorem goT {x : Bool} {A B : Prop} (h : x = true) (a : A) : (match (generalizing := false) x with | true => A | false => B) := by subst h; exact a
theorem goF {x : Bool} {A B : Prop} (h : x = false) (b : B) : (match (generalizing := false) x with | true => A | false => B) := by subst h; exact b
theorem shareA {α : Type} {G : α → Prop} {C : Prop} (main : (∀ a, G a) → C) (proof : ∀ a, G a) : C := main proof
theorem shareB {α β : Type} {G : α → β → Prop} {C : Prop} (main : (∀ a b, G a b) → C) (proof : ∀ a b, G a b) : C := main proof
theorem shareC {α β γ : Type} {G : α → β → γ → Prop} {C : Prop} (main : (∀ a b c, G a b c) → C) (proof : ∀ a b c, G a b c) : C := main proof
theorem HF.two {vs : List Int} {xs : List Ext} {f g : Fl} (h : HF vs xs f g) (hne : vs ≠ []) (P : Fl → Fl → Fl → Fl → Fl → Fl → Prop) (hp : ∀ a b c d, inFl a = true → inFl b = true → inFl c = true → inFl d = true → P f g a b c d) : P (.ow false) (.ow false) (.sp 0 0) (.sp 0 1) (.sp 1 0) (.sp 1 1) ∨ P (.ow false) .nl (.sp 0 0) .nl (.sp 1 0) .nl := by
 rcases h.fl with ⟨rfl, rfl⟩ | ⟨rfl, rfl⟩ | ⟨rfl, rfl⟩
 ·exact .inl (hp _ _ _ _ rfl rfl rfl rfl)
 ·exact .inr (hp _ _ _ _ rfl rfl rfl rfl)
 ·cases h; exact absurd rfl hne
theorem HF.tri {vs : List Int} {xs : List Ext} {f g : Fl} (h : HF vs xs f g) (P : Fl → Fl → Prop) (hp : P f g) : P (.ow false) (.ow false) ∨ P (.ow false) .nl ∨ P .nl .nl := by
 rcases h.fl with ⟨rfl, rfl⟩ | ⟨rfl, rfl⟩ | ⟨rfl, rfl⟩
 ·exact .inl hp
 ·exact .inr (.inl hp)
 ·exact .inr (.inr hp)
end Go.Vm
