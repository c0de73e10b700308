/- What the functions answer. -/
import Derived.Test.YthfbmkhjanmeaaaGETab
import Derived.Test.YthfbmkhjanmeaaaGEFA
import Derived.Test.YthfbmkhjanmeaaaGEFB
import Derived.Test.YthfbmkhjanmeaaaGEFC
import Derived.Test.YthfbmkhjanmeaaaGEFD
import Derived.Test.YthfbmkhjanmeaaaGEFE
import Derived.Test.YthfbmkhjanmeaaaGEFF
set_option maxHeartbeats 4000000
set_option maxRecDepth 10000
set_option linter.unusedVariables false
set_option linter.unusedSimpArgs false
namespace Go.Vm
def lastI (l : List Int) : Int := (l.getLast?).getD 0
def stripE (b : List Int) (e : Ext) : Bool := !hasI b e.tag
def lost (b : Box) (e : Ext) : Bool := hasI b.drops e.tag || (b.lists && !hasI b.strips e.tag && !inR e.tag 1 3)
def overL (b : Box) (h : Hello) : Bool := decide (0 < b.limit) && decide (b.limit < lastI h.versions)
def pbOk (b : Box) (h : Hello) : Bool := isBox b.limit b.drops b.strips && isHel h && !overL b h && !h.exts.any (lost b)
def pbV (b : Box) (h : Hello) : Hello := if pbOk b h then ⟨h.versions, sel (stripE b.strips) idE h.exts⟩ else ⟨[], []⟩
theorem pbV_mid {b : Box} {h : Hello} (m : h.Mid) : (pbV b h).Mid := by
 unfold pbV
 split
 ·unfold Hello.Mid at *
  exact ⟨m.1, Nat.le_trans sel_len m.2.1, fun y hy => m.2.2 y (by simp only [sel_idE] at hy; exact (List.mem_filter.1 hy).1)⟩
 ·exact ⟨by simp, by simp, by simp⟩
theorem isHel_ne {h : Hello} (hh : isHel h = true) : ∃ p y, h.versions = p ++ [y] ∧ lastI h.versions = y := by
 unfold isHel areVer at hh
 simp only [Bool.and_eq_true, decide_eq_true_eq] at hh
 rcases List.eq_nil_or_concat h.versions with h0 | ⟨p, y, h0⟩
 ·rw [h0] at hh; simp at hh
 ·rw [List.concat_eq_append] at h0; exact ⟨p, y, h0, by rw [h0]; simp [lastI]⟩
def maxGo (m : Int) : List Int → Int
 | [] => m
 | x :: xs => maxGo (if x > m then x else m) xs
theorem max_last : ∀ (xs pre : List Int) (m : Int), verGo (pre ++ [m]) xs = true → maxGo m xs = lastI (m :: xs)
 | [], _, m, _ => rfl
 | x :: xs, pre, m, h => by
  unfold verGo at h
  simp only [Bool.and_eq_true] at h
  obtain ⟨⟨_, h2⟩, h3⟩ := h
  have hx : x > m := by simp at h2; omega
  show maxGo (if x > m then x else m) xs = _
  rw [if_pos hx, max_last xs (pre ++ [m]) x h3]
  show _ = lastI (m :: x :: xs)
  simp [lastI]
theorem max_hel {x : Int} {xs : List Int} (h : areVer (x :: xs) = true) : maxGo x xs = lastI (x :: xs) := by
 unfold areVer at h
 simp only [Bool.and_eq_true] at h
 have h1 := h.1
 unfold verGo at h1
 simp only [Bool.and_eq_true] at h1
 exact max_last xs [] x h1.2
def ppGo : List Box → Hello → Hello × Bool
 | [], h => (h, true)
 | b :: bs, h => if pbOk b h then ppGo bs (pbV b h) else (⟨[], []⟩, false)
def pp (path : List Box) (h : Hello) : Hello × Bool := if isHel h && decide (path.length ≤ 4) then ppGo path h else (⟨[], []⟩, false)
def ppV (path : List Box) (h : Hello) : Hello := (pp path h).1
def ppOk (path : List Box) (h : Hello) : Bool := (pp path h).2
theorem ppGo_mid : ∀ (path : List Box) {h : Hello}, h.Mid → (ppGo path h).1.Mid
 | [], _, m => m
 | b :: bs, h, m => by
  unfold ppGo
  split
  ·exact ppGo_mid bs (pbV_mid m)
  ·exact ⟨by simp, by simp, by simp⟩
theorem ppV_mid {path : List Box} {h : Hello} (m : h.Mid) : (ppV path h).Mid := by
 unfold ppV pp
 split
 ·exact ppGo_mid path m
 ·exact ⟨by simp, by simp, by simp⟩
theorem ppGo_cases : ∀ (path : List Box) (h : Hello), (ppGo path h).2 = true ∨ ppGo path h = (⟨[], []⟩, false)
 | [], _ => .inl rfl
 | b :: bs, h => by
  unfold ppGo
  split
  ·exact ppGo_cases bs _
  ·exact .inr rfl
theorem pp_cases (path : List Box) (h : Hello) : (pp path h).2 = true ∨ pp path h = (⟨[], []⟩, false) := by
 unfold pp
 split
 ·exact ppGo_cases _ _
 ·exact .inr rfl
theorem pb_clear {b : Box} {h : Hello} (c : isClear b.limit b.drops b.strips b.lists = true) (hh : isHel h = true) : pbOk b h = true ∧ pbV b h = h := by
 obtain ⟨lim, d, s, v⟩ := b
 unfold isClear at c
 simp only [Bool.and_eq_true, decide_eq_true_eq, List.isEmpty_iff, Bool.not_eq_true'] at c
 obtain ⟨⟨⟨rfl, rfl⟩, rfl⟩, rfl⟩ := c
 have hl : ∀ e, lost ⟨0, [], [], false⟩ e = false := fun e => by unfold lost hasI; simp
 have hn : h.exts.any (lost ⟨0, [], [], false⟩) = false := by rw [List.any_eq_false]; intro e _; rw [hl e]; simp
 have hs : ∀ e, stripE [] e = true := fun e => by unfold stripE hasI; simp
 have hb : isBox 0 [] [] = true := by decide
 have ho : overL ⟨0, [], [], false⟩ h = false := by unfold overL; simp
 have ok : pbOk ⟨0, [], [], false⟩ h = true := by unfold pbOk; simp only [hb, hh, ho, hn]; rfl
 refine ⟨ok, ?_⟩
 unfold pbV
 rw [if_pos ok]
 simp only [sel_idE]
 rw [List.filter_eq_self.2 (fun e _ => hs e)]
theorem pb_hel {b : Box} {h : Hello} (q : pbOk b h = true) : isHel (pbV b h) = true ∧ (pbV b h).versions = h.versions ∧ subB (sel yesE Ext.tag (pbV b h).exts) (sel yesE Ext.tag h.exts) = true ∧ sel (hasI b.strips) idI (sel yesE Ext.tag (pbV b h).exts) = [] := by
 have hh : isHel h = true := by
  have q' := q
  unfold pbOk at q'
  simp only [Bool.and_eq_true] at q'
  exact q'.1.1.2
 have e : pbV b h = ⟨h.versions, sel (stripE b.strips) idE h.exts⟩ := by unfold pbV; rw [if_pos q]
 rw [e]
 refine ⟨?_, rfl, ?_, ?_⟩
 ·unfold isHel at hh ⊢
  simp only [Bool.and_eq_true] at hh ⊢
  exact ⟨hh.1, areEx_sel hh.2⟩
 ·unfold subB
  rw [List.all_eq_true]
  intro t ht
  rw [hasI_iff]
  unfold sel at ht ⊢
  rw [List.mem_map] at ht ⊢
  obtain ⟨x, hx, rfl⟩ := ht
  refine ⟨x, ?_, rfl⟩
  rw [List.mem_filter] at hx ⊢
  have := hx.1
  rw [List.mem_map] at this
  obtain ⟨y, hy, rfl⟩ := this
  exact ⟨(List.mem_filter.1 hy).1, rfl⟩
 ·rw [List.eq_nil_iff_forall_not_mem]
  intro t ht
  rw [sel_idI, List.mem_filter] at ht
  obtain ⟨h1, h2⟩ := ht
  unfold sel at h1
  rw [List.mem_map] at h1
  obtain ⟨x, hx, rfl⟩ := h1
  have := (List.mem_filter.1 hx).1
  rw [List.mem_map] at this
  obtain ⟨y, hy, rfl⟩ := this
  have h3 := (List.mem_filter.1 hy).2
  unfold stripE at h3
  unfold idE at h2
  rw [h2] at h3
  simp at h3
theorem ppGo_clear : ∀ {p : List Box} {h : Hello}, p.all clearB = true → isHel h = true → ppGo p h = (h, true)
 | [], _, _, _ => rfl
 | b :: p, h, c, hh => by
  rw [List.all_cons, Bool.and_eq_true] at c
  obtain ⟨h1, h2⟩ := pb_clear (b := b) (h := h) c.1 hh
  unfold ppGo
  rw [if_pos h1, h2]
  exact ppGo_clear c.2 hh
theorem pp_clear {p : List Box} {h : Hello} (c : isCP p = true) : ppOk p h = isHel h := by
 unfold isCP at c
 rw [Bool.and_eq_true] at c
 unfold ppOk pp
 rw [c.2, Bool.and_true]
 cases hh : isHel h with
 | true => rw [if_pos rfl, ppGo_clear c.1 hh]
 | false => rfl
def iop (path : List Box) (versions : List Int) : Bool := areVer versions && ppOk path ⟨versions.take 1, []⟩
def pw (h : Hello) (path : List Box) : Bool := ppOk path h && decide (ppV path h = h)
def deadE (path : List Box) (versions : List Int) (e : Ext) : Bool := !pw ⟨versions.take 1, [e]⟩ path
def ltags (path : List Box) (versions : List Int) (exts : List Ext) : List Int := if areEx exts && iop path versions then sel (deadE path versions) Ext.tag exts else []
theorem ltags_len {path : List Box} {versions : List Int} {exts : List Ext} : (ltags path versions exts).length ≤ exts.length := by
 unfold ltags; split
 ·exact sel_len
 ·simp
theorem ppGo_ver : ∀ (path : List Box) (h : Hello), (ppGo path h).2 = true → (ppGo path h).1.versions = h.versions
 | [], _, _ => rfl
 | b :: bs, h, hq => by
  unfold ppGo at hq ⊢
  split at hq
  ·rename_i hb
   rw [if_pos hb, ppGo_ver bs _ hq]
   unfold pbV
   rw [if_pos hb]
  ·cases hq
theorem pp_ver {path : List Box} {h : Hello} (hq : ppOk path h = true) : (ppV path h).versions = h.versions := by
 unfold ppOk ppV pp at *
 split at hq
 ·rename_i hb
  rw [if_pos hb]; exact ppGo_ver path h hq
 ·cases hq
theorem pw_exts {path : List Box} {h : Hello} : pw h path = (ppOk path h && decide ((ppV path h).exts = h.exts)) := by
 unfold pw
 cases hq : ppOk path h with
 | false => rfl
 | true =>
  rw [Bool.true_and, Bool.true_and]
  have := pp_ver hq
  congr 1
  refine propext ⟨fun e => by rw [e], fun e => ?_⟩
  rcases hp : ppV path h with ⟨a, b⟩
  rw [hp] at this e
  cases h
  simp only at this e
  rw [this, e]
def deadV (path : List Box) (v : Int) : Bool := !ppOk path ⟨[v], []⟩
def lvs (path : List Box) (versions : List Int) : List Int := if areVer versions then sel (deadV path) idI versions else []
theorem lvs_len {path : List Box} {versions : List Int} : (lvs path versions).length ≤ versions.length := by
 unfold lvs; split
 ·exact sel_len
 ·simp
theorem ver_mem : ∀ (suf pre : List Int), verGo pre suf = true → ∀ x ∈ suf, inR x 1 9 = true
 | [], _, _ => by simp
 | y :: suf, pre, h => by
  unfold verGo at h
  simp only [Bool.and_eq_true] at h
  intro x hx
  rcases List.mem_cons.1 hx with rfl | hx
  ·exact h.1.1
  ·exact ver_mem suf _ h.2 x hx
theorem iop_one {path : List Box} {versions : List Int} (h : areVer versions = true) {x : Int} (hx : x ∈ versions) : iop path [x] = ppOk path ⟨[x], []⟩ := by
 unfold areVer at h
 simp only [Bool.and_eq_true] at h
 have h1 := ver_mem _ _ h.1 x hx
 unfold iop areVer verGo verGo
 simp [h1]
theorem verGo_of : ∀ (suf pre : List Int), (∀ y, pre.getLast? = some y → ∀ x ∈ suf, y < x) → suf.Pairwise (· < ·) → (∀ x ∈ suf, 1 ≤ x ∧ x ≤ 9) → verGo pre suf = true
 | [], _, _, _, _ => rfl
 | x :: suf, pre, h1, h2, h3 => by
  unfold verGo
  rw [List.pairwise_cons] at h2
  have hx := h3 x (by simp)
  have e1 : inR x 1 9 = true := by unfold inR; simp [hx]
  have e2 : verGo (pre ++ [x]) suf = true := verGo_of suf _ (fun y hy => by simp at hy; subst hy; exact h2.1) h2.2 (fun y hy => h3 y (by simp [hy]))
  rw [e1, e2]
  cases hp : pre.getLast? with
  | none => rfl
  | some y =>
   have := h1 y hp x (by simp)
   simp; omega
theorem areVer_of {l : List Int} (h0 : l ≠ []) (h2 : l.Pairwise (· < ·)) (h3 : ∀ x ∈ l, 1 ≤ x ∧ x ≤ 9) : areVer l = true := by
 unfold areVer
 rw [verGo_of l [] (by simp) h2 h3]
 simp [List.length_pos_iff, h0]
theorem areVer_sel {l : List Int} {p : Int → Bool} (h : areVer l = true) (h0 : l.filter p ≠ []) : areVer (l.filter p) = true := by
 obtain ⟨h1, h2⟩ := areVer_asc h
 exact areVer_of h0 (h1.filter p) (fun x hx => h2 x (List.mem_filter.1 hx).1)
theorem areVer_one {l : List Int} {v : Int} (h : areVer l = true) (hv : v ∈ l) : areVer [v] = true := by
 obtain ⟨_, h2⟩ := areVer_asc h
 exact areVer_of (by simp) (by simp) (fun x hx => by simp at hx; rw [hx]; exact h2 v hv)
theorem le_last {l : List Int} {v : Int} (h : areVer l = true) (hv : v ∈ l) : v ≤ lastI l := by
 obtain ⟨h1, _⟩ := areVer_asc h
 obtain ⟨p, y, rfl⟩ : ∃ p y, l = p ++ [y] := by
  rcases List.eq_nil_or_concat l with h0 | ⟨p, y, h0⟩
  ·rw [h0] at hv; simp at hv
  ·exact ⟨p, y, by rw [h0, List.concat_eq_append]⟩
 have e : lastI (p ++ [y]) = y := by simp [lastI]
 rw [e]
 rcases List.mem_append.1 hv with h | h
 ·have := (List.pairwise_append.1 h1).2.2 v h y (by simp); omega
 ·simp at h; omega
theorem ppGo_le : ∀ (p : List Box) (h : Hello), (ppGo p h).1.exts.length ≤ h.exts.length
 | [], _ => Nat.le_refl _
 | b :: p, h => by
  unfold ppGo
  split
  ·rename_i q
   refine Nat.le_trans (ppGo_le p _) ?_
   unfold pbV
   rw [if_pos q]
   exact sel_len
  ·simp
theorem ppGo_whole : ∀ {p : List Box} {h : Hello}, ppGo p h = (h, true) → ∀ b ∈ p, pbOk b h = true ∧ ∀ e ∈ h.exts, stripE b.strips e = true
 | [], _, _ => by simp
 | b :: p, h, e => by
  unfold ppGo at e
  split at e
  ·rename_i q
   have hl := ppGo_le p (pbV b h)
   rw [e] at hl
   have hv : pbV b h = ⟨h.versions, h.exts.filter (stripE b.strips)⟩ := by unfold pbV; rw [if_pos q, sel_idE]
   rw [hv] at hl e
   simp only at hl
   have hf : h.exts.filter (stripE b.strips) = h.exts := (List.filter_sublist (p := stripE b.strips) (l := h.exts)).eq_of_length_le hl
   rw [hf] at e
   intro c hc
   rcases List.mem_cons.1 hc with rfl | hc
   ·exact ⟨q, List.filter_eq_self.1 hf⟩
   ·exact ppGo_whole e c hc
  ·cases e
theorem ppGo_all : ∀ {p : List Box} {h : Hello}, (∀ b ∈ p, pbOk b h = true ∧ ∀ e ∈ h.exts, stripE b.strips e = true) → ppGo p h = (h, true)
 | [], _, _ => rfl
 | b :: p, h, k => by
  obtain ⟨q, hs⟩ := k b (by simp)
  unfold ppGo
  rw [if_pos q]
  have hv : pbV b h = h := by
   unfold pbV
   rw [if_pos q, sel_idE, List.filter_eq_self.2 hs]
  rw [hv]
  exact ppGo_all (fun c hc => k c (by simp [hc]))
theorem part_whole {p : List Box} {v : List Int} {x : List Ext} (hh : isHel ⟨v, x⟩ = true) (e : ppGo p ⟨v, x⟩ = (⟨v, x⟩, true)) {v0 : Int} (hv : v0 ∈ v) {y : List Ext} (hy : ∀ z ∈ y, z ∈ x) (hay : areEx y = true) : ppGo p ⟨[v0], y⟩ = (⟨[v0], y⟩, true) := by
 have k := ppGo_whole e
 have hver : areVer v = true := by unfold isHel at hh; simp only [Bool.and_eq_true] at hh; exact hh.1
 refine ppGo_all (fun b hb => ?_)
 obtain ⟨q, hs⟩ := k b hb
 refine ⟨?_, fun z hz => hs z (hy z hz)⟩
 unfold pbOk at q ⊢
 simp only [Bool.and_eq_true, Bool.not_eq_true'] at q ⊢
 obtain ⟨⟨⟨q1, q2⟩, q3⟩, q4⟩ := q
 refine ⟨⟨⟨q1, ?_⟩, ?_⟩, ?_⟩
 ·unfold isHel; rw [areVer_one hver hv, hay]; rfl
 ·unfold overL at q3 ⊢
  have := le_last hver hv
  have e : lastI [v0] = v0 := rfl
  change (decide (0 < b.limit) && decide (b.limit < lastI v)) = false at q3
  show (decide (0 < b.limit) && decide (b.limit < lastI [v0])) = false
  rw [e]
  simp only [Bool.and_eq_false_iff, decide_eq_false_iff_not] at q3 ⊢
  rcases q3 with h | h
  ·exact .inl h
  ·right; omega
 ·rw [List.any_eq_false] at q4 ⊢
  exact fun z hz => q4 z (hy z hz)
theorem areEx_one {x : List Ext} {e : Ext} (h : areEx x = true) (he : e ∈ x) : areEx [e] = true := by
 obtain ⟨h1, h2, h3⟩ := areEx_iff.1 h
 exact areEx_iff.2 ⟨fun z hz => by simp at hz; rw [hz]; exact h1 e he, by simp, by simp⟩
theorem areEx_nil : areEx [] = true := by decide
theorem ppOk_of {p : List Box} {h : Hello} (hl : p.length ≤ 4) (hh : isHel h = true) (e : ppGo p h = (h, true)) : ppOk p h = true ∧ ppV p h = h := by
 unfold ppOk ppV pp
 rw [hh, decide_eq_true hl, e]
 exact ⟨rfl, rfl⟩
theorem none_lost {p : List Box} {v : List Int} {x : List Ext} (hl : p.length ≤ 4) (k : ∀ v0 ∈ v, ∀ y, (∀ z ∈ y, z ∈ x) → areEx y = true → areVer v = true → ppGo p ⟨[v0], y⟩ = (⟨[v0], y⟩, true)) : lvs p v = [] ∧ ltags p v x = [] := by
 have hel : ∀ v0 ∈ v, ∀ y, areEx y = true → areVer v = true → isHel ⟨[v0], y⟩ = true := fun v0 hv y hy h => by unfold isHel; rw [areVer_one h hv, hy]; rfl
 constructor
 ·unfold lvs
  split
  ·rename_i h
   rw [sel_idI, List.filter_eq_nil_iff]
   intro v0 hv
   unfold deadV
   rw [(ppOk_of hl (hel v0 hv [] areEx_nil h) (k v0 hv [] (by simp) areEx_nil h)).1]
   simp
  ·rfl
 ·unfold ltags
  split
  ·rename_i h
   rw [Bool.and_eq_true] at h
   unfold sel
   rw [List.map_eq_nil_iff, List.filter_eq_nil_iff]
   intro e he
   have hver : areVer v = true := by have := h.2; unfold iop at this; rw [Bool.and_eq_true] at this; exact this.1
   cases v with
   | nil => simp [areVer] at hver
   | cons v0 t =>
    unfold deadE pw
    have h1 := areEx_one h.1 he
    obtain ⟨a, b⟩ := ppOk_of hl (hel v0 (by simp) [e] h1 hver) (k v0 (by simp) [e] (by simpa using he) h1 hver)
    rw [show (v0 :: t).take 1 = [v0] from rfl, a, b]
    simp
  ·rfl
theorem lost_clear {p : List Box} {v : List Int} {x : List Ext} (c : isCP p = true) : lvs p v = [] ∧ ltags p v x = [] := by
 unfold isCP at c
 rw [Bool.and_eq_true, decide_eq_true_eq] at c
 exact none_lost c.2 (fun v0 hv y hy hay h => ppGo_clear c.1 (by unfold isHel; rw [areVer_one h hv, hay]; rfl))
theorem lost_whole {p : List Box} {v : List Int} {x : List Ext} (h1 : ppOk p ⟨v, x⟩ = true) (h2 : ppV p ⟨v, x⟩ = ⟨v, x⟩) : lvs p v = [] ∧ ltags p v x = [] := by
 unfold ppOk at h1
 unfold ppV at h2
 unfold pp at h1 h2
 split at h1
 ·rename_i q
  rw [if_pos q] at h2
  rw [Bool.and_eq_true, decide_eq_true_eq] at q
  exact none_lost q.2 (fun v0 hv y hy hay _ => part_whole q.1 (Prod.ext h2 h1) hv hy hay)
 ·cases h1
theorem lvs_sub (p : List Box) (v : List Int) : subB (lvs p v) v = true := by
 unfold subB lvs
 rw [List.all_eq_true]
 intro t ht
 rw [hasI_iff]
 split at ht
 ·rw [sel_idI] at ht; exact (List.mem_filter.1 ht).1
 ·simp at ht
theorem ltags_sub (p : List Box) (v : List Int) (x : List Ext) : subB (ltags p v x) (sel yesE Ext.tag x) = true := by
 unfold subB ltags
 rw [List.all_eq_true]
 intro t ht
 rw [hasI_iff]
 split at ht
 ·unfold sel at ht ⊢
  rw [List.mem_map] at ht ⊢
  obtain ⟨e, he, rfl⟩ := ht
  exact ⟨e, List.mem_filter.2 ⟨(List.mem_filter.1 he).1, rfl⟩, rfl⟩
 ·simp at ht
theorem part_good {h : Hello} {lv tg : List Int} (q : partOk h lv = true) : isHel (partV h lv tg) = true ∧ sel (hasI lv) idI (partV h lv tg).versions = [] ∧ sel (hasI tg) idI (sel yesE Ext.tag (partV h lv tg).exts) = [] ∧ isHel ⟨h.versions, []⟩ = true := by
 have e : partV h lv tg = ⟨h.versions.filter (notIn lv), h.exts.filter (notTagIn tg)⟩ := by unfold partV; rw [if_pos q, sel_idI, sel_idE]
 unfold partOk at q
 rw [sel_idI] at q
 simp only [Bool.and_eq_true, Bool.not_eq_true', decide_eq_false_iff_not] at q
 obtain ⟨q1, q2⟩ := q
 have hne : h.versions.filter (notIn lv) ≠ [] := fun e => q2 (by rw [e]; rfl)
 unfold isHel at q1
 simp only [Bool.and_eq_true] at q1
 rw [e]
 refine ⟨?_, ?_, ?_, ?_⟩
 ·unfold isHel
  simp only
  have := areEx_sel (p := notTagIn tg) q1.2
  rw [sel_idE] at this
  rw [areVer_sel q1.1 hne, this]; rfl
 ·rw [sel_idI, List.filter_eq_nil_iff]
  intro t ht
  have := (List.mem_filter.1 ht).2
  unfold notIn at this
  simpa using this
 ·rw [sel_idI, List.filter_eq_nil_iff]
  intro t ht
  unfold sel at ht
  rw [List.mem_map] at ht
  obtain ⟨z, hz, rfl⟩ := ht
  have := (List.mem_filter.1 (List.mem_filter.1 hz).1).2
  unfold notTagIn at this
  simpa using this
 ·unfold isHel; rw [q1.1, areEx_nil]; rfl
theorem l4Go_up (n : Int) : ∀ (suf pre : List Int), (pre ++ suf).Pairwise (· < ·) → (∀ x ∈ pre, x < n) → (l4Go n pre suf).Pairwise (· < ·)
 | [], pre, h1, h3 => l4Go_asc n [] pre h1 (by simp) h3
 | x :: suf, pre, h1, h3 => by
  by_cases hx : x = n
  ·unfold l4Go
   rw [if_neg (by omega), if_pos hx]; exact h1
  ·by_cases hy : x < n
   ·unfold l4Go
    rw [if_pos hy]
    refine l4Go_up n suf (pre ++ [x]) (by simpa using h1) (fun y hy' => ?_)
    rcases List.mem_append.1 hy' with h | h
    ·exact h3 y h
    ·simp at h; omega
   ·refine l4Go_asc n (x :: suf) pre h1 ?_ h3
    intro h
    rcases List.mem_cons.1 h with h | h
    ·exact hx h.symm
    ·have := (List.pairwise_cons.1 (List.pairwise_append.1 h1).2.1).1 n h; omega
def VAsc (l : List Int) : Prop := l.Pairwise (· < ·) ∧ ∀ x ∈ l, 1 ≤ x ∧ x ≤ 9
theorem VAsc.put {l : List Int} (h : VAsc l) {n : Int} (h1 : 1 ≤ n) (h2 : n ≤ 9) : VAsc (l4V l n) := by
 refine ⟨l4Go_up n l [] (by simpa using h.1) (by simp), fun x hx => ?_⟩
 rcases l4Go_mem n l [] x hx with e | e | e
 ·omega
 ·simp at e
 ·exact h.2 x e
def XAdi (l : List Ext) : Prop := (∀ x ∈ l, gEx x = true) ∧ l.Pairwise (fun x y => x.tag ≠ y.tag)
theorem XAdi.nil : XAdi [] := ⟨by simp, .nil⟩
theorem XAdi.ex {l : List Ext} (h : XAdi l) (hl : l.length ≤ 6) : areEx l = true := areEx_iff.2 ⟨h.1, h.2, hl⟩
theorem XAdi.push {l : List Ext} (h : XAdi l) {x : Ext} (hx : ∀ y ∈ l, y.tag ≠ x.tag) (h1 : 0 ≤ x.tag) (h2 : x.tag ≤ 255) (h3 : x.body.length ≤ 4) (h4 : bytes x.body = true) : XAdi (l ++ [x]) := by
 refine ⟨fun y hy => ?_, List.pairwise_append.2 ⟨h.2, by simp, fun a ha b hb => by simp at hb; rw [hb]; exact hx a ha⟩⟩
 rcases List.mem_append.1 hy with hy | hy
 ·exact h.1 y hy
 ·simp at hy
  rw [hy]
  unfold gEx inR
  rw [h4]
  simp; omega
theorem bytes_push {l : List Int} (h : bytes l = true) {n : Int} (h1 : 0 ≤ n) (h2 : n < 256) : bytes (l ++ [n]) = true := by
 unfold bytes inR at h ⊢
 rw [List.all_append, h]
 simp; omega
theorem find_none_iff {l : List Ext} {t : Int} (h : extOf l t < 0) : ∀ y ∈ l, y.tag ≠ t := fun y hy e => find_some_of hy (by rw [e]; exact h)
theorem dw3248 {B : List Int} {i : Int} (w : CW B i) (h : Int) : ∃ r, fix Tb md 3248 [sCur (row fU B) (.sp 0 0) i h] = some r ∧ ∃ l i' h', r = ⟨[R (row fI l) (.ow false)], [], some (vCur (row fU B) i' h')⟩ ∧ CW B i' ∧ VL 4 l ∧ areVer l = true := by
 obtain ⟨n1, i1, h1, k1, w1, r1, r1'⟩ := below_dr w h 4 (by decide) (by decide)
 obtain ⟨n2, i2, h2, k2, w2, r2, r2'⟩ := below_dr w1 h1 4 (by decide) (by decide)
 have kb := fun {i : Int} (w : CW B i) (h : Int) => below_dr w h 6 (by decide) (by decide)
 have kp := fun (l : List Int) (n : Int) (hl : l.length ≤ 1073741824) => ok345 l n hl (f0 := .sp 0 0) rfl
 obtain ⟨eb, heb⟩ := nm (row fU B)
 rw [← heb] at k1 k2 kb ⊢
 refine fix_bxE (fn := ir3248) tb_3248 rfl rfl rfl (by decide) ?_; intro Q W hW hQ; simp only [List.map_nil, ir3248]
 have hW' : ∀ el i' h' l, el = row fI l → CW B i' → VL 4 l → areVer l = true → W (some ⟨[R el (.ow false)], [], some (vCur eb i' h')⟩) := fun el i' h' l e a b c => hW _ ⟨l, i', h', by rw [e], a, b, c⟩
 clear hW
 intro add sub mul arith eq ne lt le gt ge neg conv mn mx not beq len at' ln bd cut app allS isNil mks set o hP F ho
 rw [← ho] at k1 k2 kb kp
 have hgt : ∀ (z : Int) (n : Nat), z = (n : Int) → gt z 0 = decide (0 < n) := fun z n e => by rw [F.gt, e]; simp
 have hdec : ∀ (z : Int) (n : Nat), z = ((n + 1 : Nat) : Int) → n ≤ 1000 → sub .i64 z 1 = (n : Int) := fun z n e hn => by rw [F.sub, e, wrap64 (by omega) (by omega)]; omega
 have a1 : add .i64 1 n1 = 1 + n1 := by rw [F.add, wrap64 (by omega) (by omega)]
 have hl1 : VL 1 [add .i64 1 n1] := by rw [a1]; exact VL.one (by omega) (by omega)
 have ha1 : VAsc [add .i64 1 n1] := by rw [a1]; exact ⟨by simp, fun x hx => by simp at hx; omega⟩
 clear a1
 cbv
 rw [k1]; cbv
 rw [k2]; cbv
 refine loop_ind2 hP (σ := Nat × List Int × Int × List (List V) × Int × Int) (fun s => [(0, ⟨.ptr 43 0, []⟩), (2, R [] .nl), (3, R s.2.2.2.1 (.ow false)), (4, I s.2.2.1), (43, ⟨.box (), [⟨.row () eb, .sp 0 0⟩, ⟨.int .i64 s.2.2.2.2.1, .sc⟩, ⟨.int .i64 s.2.2.2.2.2, .sc⟩]⟩)]) (fun s => CW B s.2.2.2.2.1 ∧ s.2.2.1 = (s.1 : Int) ∧ s.2.2.2.1 = row fI s.2.1 ∧ s.1 ≤ 3 ∧ VL (4 - s.1) s.2.1 ∧ s.2.1 ≠ [] ∧ VAsc s.2.1) (fun s => s.1) (n2.toNat, [add .i64 1 n1], n2, [[.int .i64 (add .i64 1 n1)]], i2, h2) rfl ⟨w2, by simp only; omega, rfl, by simp only; omega, hl1.mono (by simp only; omega), by simp, ha1⟩ ?_
 intro c9 Q1 hc9 hQ1
 rintro ⟨n, l, nn, el, i, h⟩ ⟨hw, hnn, hel, hn, hl, hne, ha⟩ ih
 simp only at hw hnn hel hn hl hne ha ih
 cbv
 cases n with
 | zero =>
  rw [hgt nn 0 hnn]; cbv
  rw [hQ1]; cbv
  rw [hQ]; cbv
  exact hW' el i h l hel hw hl (areVer_of hne ha.1 ha.2)
 | succ n =>
  rw [hgt nn (n + 1) hnn]; cbv
  obtain ⟨x, i', h', k, w', rx, rx'⟩ := kb hw h
  obtain ⟨y, hy⟩ := nm (add .i64 1 x)
  have a2 : y = 1 + x := by rw [hy, F.add, wrap64 (by omega) (by omega)]
  obtain ⟨el', hel'⟩ := nm (row fI (l4V l y))
  have kq : o 345 [R el (.sp 0 0), I y] = some ⟨[R el' (.ow false)], [], none⟩ := by rw [hel, hel']; exact kp l y (by have := hl.1; omega)
  rw [k]; cbv
  rw [← hy, kq]; cbv
  rw [hdec nn n hnn (by omega)]
  exact ih (n, l4V l y, (n : Int), el', i', h') ⟨w', rfl, hel', by omega, by have := l4V_VL hl (n := y) (by omega) (by omega); exact this.mono (by omega), l4V_ne _ _, ha.put (by omega) (by omega)⟩ (by simp)
theorem dw3344 {B : List Int} {i : Int} (w : CW B i) (h : Int) : ∃ r, fix Tb md 3344 [sCur (row fU B) (.sp 0 0) i h] = some r ∧ ∃ l i' h', r = ⟨[R (row fExt l) (.ow false)], [], some (vCur (row fU B) i' h')⟩ ∧ CW B i' ∧ XL 5 l ∧ areEx l = true := by
 obtain ⟨n1, i1, h1, k1, w1, r1, r1'⟩ := below_dr w h 6 (by decide) (by decide)
 have kb := fun (n : Int) (h0 : 0 < n) (h1 : n ≤ 256) {i : Int} (w : CW B i) (h : Int) => below_dr w h n h0 h1
 have kt := fun {i : Int} (w : CW B i) (h : Int) => int_dr w h [1, 2, 3, 10, 26, 40, 42, 200] (by simp) (by simp) (f := .sp 1 0) rfl
 simp only [show row fI [1, 2, 3, 10, 26, 40, 42, 200] = [[.int .i64 1], [.int .i64 2], [.int .i64 3], [.int .i64 10], [.int .i64 26], [.int .i64 40], [.int .i64 42], [.int .i64 200]] from rfl] at kt
 have kp := fun (l : List Ext) (t : Int) (hl : l.length ≤ 1099511627776) => ok286 l t hl (f0 := .sp 0 0) rfl
 obtain ⟨eb, heb⟩ := nm (row fU B)
 rw [← heb] at k1 kb kt ⊢
 refine fix_bxE (fn := ir3344) tb_3344 rfl rfl rfl (by decide) ?_; intro Q W hW hQ; simp only [List.map_nil, ir3344]
 have hW' : ∀ el i' h' l, el = row fExt l → CW B i' → XL 5 l → areEx l = true → W (some ⟨[R el (.ow false)], [], some (vCur eb i' h')⟩) := fun el i' h' l e a b c => hW _ ⟨l, i', h', by rw [e], a, b, c⟩
 clear hW
 intro add sub mul arith eq ne lt le gt ge neg conv mn mx not beq len at' ln bd cut app allS isNil mks set o hP F ho
 rw [← ho] at k1 kb kt kp
 have hgt : ∀ (z : Int) (n : Nat), z = (n : Int) → gt z 0 = decide (0 < n) := fun z n e => by rw [F.gt, e]; simp
 have hdec : ∀ (z : Int) (n : Nat), z = ((n + 1 : Nat) : Int) → n ≤ 1000 → sub .i64 z 1 = (n : Int) := fun z n e hn => by rw [F.sub, e, wrap64 (by omega) (by omega)]; omega
 cbv
 rw [k1]; cbv
 refine loop_ind2 hP (σ := Nat × List Ext × Int × List (List V) × Int × Int × Option (Int × List (List V) × Fl × Int)) (fun s => match s.2.2.2.2.2.2 with
   | none => [(0, ⟨.ptr 83 0, []⟩), (2, R [] .nl), (3, R s.2.2.2.1 (.ow false)), (4, I s.2.2.1), (83, ⟨.box (), [⟨.row () eb, .sp 0 0⟩, ⟨.int .i64 s.2.2.2.2.1, .sc⟩, ⟨.int .i64 s.2.2.2.2.2.1, .sc⟩]⟩)]
   | some j => [(0, ⟨.ptr 83 0, []⟩), (2, R [] .nl), (3, R s.2.2.2.1 (.ow false)), (4, I s.2.2.1), (5, ⟨.ptr 46 0, []⟩), (6, I j.2.2.2), (46, ⟨.box (), [⟨.int .i64 j.1, .sc⟩, ⟨.row () j.2.1, j.2.2.1⟩]⟩), (83, ⟨.box (), [⟨.row () eb, .sp 0 0⟩, ⟨.int .i64 s.2.2.2.2.1, .sc⟩, ⟨.int .i64 s.2.2.2.2.2.1, .sc⟩]⟩)]) (fun s => CW B s.2.2.2.2.1 ∧ s.2.2.1 = (s.1 : Int) ∧ s.2.2.2.1 = row fExt s.2.1 ∧ s.1 ≤ 5 ∧ XL (5 - s.1) s.2.1 ∧ XAdi s.2.1) (fun s => s.1) (n1.toNat, [], n1, [], i1, h1, none) rfl ⟨w1, by simp only; omega, rfl, by simp only; omega, ⟨by simp, by simp⟩, XAdi.nil⟩ ?_
 intro c9 Q1 hc9 hQ1
 rintro ⟨n, l, nn, el, i, h, j⟩ ⟨hw, hnn, hel, hn, hl, ha⟩ ih
 simp only at hw hnn hel hn hl ha ih
 rcases j with _ | ⟨j1, j2, j3, j4⟩
 all_goals
  cbv
  cases n with
  | zero =>
   rw [hgt nn 0 hnn]; cbv
   rw [hQ1]; cbv
   rw [hQ]; cbv
   exact hW' el i h l hel hw hl (ha.ex (by have := hl.1; omega))
  | succ n =>
   rw [hgt nn (n + 1) hnn]; cbv
   obtain ⟨t, i2, h2, k2, w2, rt⟩ := kt hw h
   simp only [List.mem_cons, List.not_mem_nil, or_false] at rt
   rw [k2]; cbv
   obtain ⟨m0, i3, h3, k3, w3, r3, r3'⟩ := kb 4 (by decide) (by decide) w2 h2
   rw [k3]; cbv
   refine loop_ind2 hP (σ := Nat × Int × Int × Int × Option (List Int × List (List V))) (fun s => match s.2.2.2.2 with
    | none => [(0, ⟨.ptr 83 0, []⟩), (2, R [] .nl), (3, R el (.ow false)), (4, I nn), (5, ⟨.ptr 46 0, []⟩), (6, I s.2.1), (46, ⟨.box (), [⟨.int .i64 t, .sc⟩, ⟨.row () [], .nl⟩]⟩), (83, ⟨.box (), [⟨.row () eb, .sp 0 0⟩, ⟨.int .i64 s.2.2.1, .sc⟩, ⟨.int .i64 s.2.2.2.1, .sc⟩]⟩)]
    | some j => [(0, ⟨.ptr 83 0, []⟩), (2, R [] .nl), (3, R el (.ow false)), (4, I nn), (5, ⟨.ptr 46 0, []⟩), (6, I s.2.1), (46, ⟨.box (), [⟨.int .i64 t, .sc⟩, ⟨.row () j.2, .ow false⟩]⟩), (83, ⟨.box (), [⟨.row () eb, .sp 0 0⟩, ⟨.int .i64 s.2.2.1, .sc⟩, ⟨.int .i64 s.2.2.2.1, .sc⟩]⟩)]) (fun s => CW B s.2.2.1 ∧ s.2.1 = (s.1 : Int) ∧ s.1 ≤ 3 ∧ ∀ j, s.2.2.2.2 = some j → j.2 = row fI j.1 ∧ VL (3 - s.1) j.1 ∧ bytes j.1 = true) (fun s => s.1) (m0.toNat, m0, i3, h3, none) rfl ⟨w3, by simp only; omega, by simp only; omega, by simp⟩ ?_
   clear k2 k3 w3 r3 r3'
   intro c8 Q2 hc8 hQ2
   rintro ⟨m, mm, i3, h3, j⟩ ⟨w3, hmm, hm, hj⟩ ih2
   simp only at w3 hmm hm hj ih2
   rcases j with _ | ⟨b, e⟩
   ·clear hj
    cbv
    cases m with
    | zero =>
     rw [hgt mm 0 hmm]; cbv
     rw [hQ2]; cbv
     have xt : extOf l t < 0 → ∀ y ∈ l, y.tag ≠ t := fun h => find_none_iff h
     obtain ⟨x, hx⟩ := nm (extOf l t)
     rw [← hx] at xt
     have kx := kp l t (by have := hl.1; omega)
     rw [← hel, ← hx] at kx
     rw [kx]; cbv
     refine both (fun d1 => ?_) (fun d1 => ?_) <;> rw [d1] <;> cbv
     ·obtain ⟨el', hel'⟩ := nm (row fExt (l ++ [⟨t, []⟩]))
      rw [show allS [[.int .i64 t, .row () []]] = false by rw [F.allS]; rfl]; cbv
      rw [show app 2 el [[.int .i64 t, .row () []]] = some el' by rw [hel']; exact F.push (f := fExt) hel (fun _ => rfl) rfl (by have := hl.1; omega)]; cbv
      rw [hdec nn n hnn (by omega)]
      exact ih (n, l ++ [⟨t, []⟩], (n : Int), el', i3, h3, some (t, [], .nl, mm)) ⟨w3, rfl, hel', by omega, by have := hl.push (x := ⟨t, []⟩) (by simp only; omega) (⟨by simp, by simp⟩); exact this.mono (by omega), ha.push (xt (by rw [F.lt] at d1; exact of_decide_eq_true d1)) (by simp only; omega) (by simp only; omega) (by simp) rfl⟩ (by simp)
     ·rw [hdec nn n hnn (by omega)]
      exact ih (n, l, (n : Int), el, i3, h3, some (t, [], .nl, mm)) ⟨w3, rfl, hel, by omega, hl.mono (by omega), ha⟩ (by simp)
    | succ m =>
     rw [hgt mm (m + 1) hmm]; cbv
     obtain ⟨y, i4, h4, k4, w4, r4, r4'⟩ := kb 256 (by decide) (by decide) w3 h3
     obtain ⟨e', he'⟩ := nm (row fI ([] ++ [y]))
     rw [k4]; cbv
     rw [show allS [[.int .i64 y]] = true by rw [F.allS]; rfl]; cbv
     rw [show app 1 [] [[.int .i64 y]] = some e' by rw [he']; exact F.push (f := fI) (l := []) rfl (fun _ => rfl) rfl (by simp)]; cbv
     rw [show isNil [[.int .i64 y]] = false by rw [F.isNil]; rfl]; cbv
     rw [hdec mm m hmm (by omega)]
     exact ih2 (m, (m : Int), i4, h4, some ([] ++ [y], e')) ⟨w4, rfl, by simp only; omega, fun j e => by
      cases e
      exact ⟨he', (VL.one (by omega) (by omega)).mono (by simp only; omega), bytes_push rfl (by omega) (by omega)⟩⟩ (by simp)
   ·obtain ⟨he, hb, hby⟩ := hj _ rfl
    simp only at he hb hby
    cbv
    cases m with
    | zero =>
     rw [hgt mm 0 hmm]; cbv
     rw [hQ2]; cbv
     have xt : extOf l t < 0 → ∀ y ∈ l, y.tag ≠ t := fun h => find_none_iff h
     obtain ⟨x, hx⟩ := nm (extOf l t)
     rw [← hx] at xt
     have kx := kp l t (by have := hl.1; omega)
     rw [← hel, ← hx] at kx
     rw [kx]; cbv
     refine both (fun d1 => ?_) (fun d1 => ?_) <;> rw [d1] <;> cbv
     ·obtain ⟨el', hel'⟩ := nm (row fExt (l ++ [⟨t, b⟩]))
      rw [show allS [[.int .i64 t, .row () e]] = false by rw [F.allS]; rfl]; cbv
      rw [show app 2 el [[.int .i64 t, .row () e]] = some el' by rw [hel']; exact F.push (f := fExt) hel (fun _ => rfl) (by rw [he]; rfl) (by have := hl.1; omega)]; cbv
      rw [hdec nn n hnn (by omega)]
      exact ih (n, l ++ [⟨t, b⟩], (n : Int), el', i3, h3, some (t, e, .fr, mm)) ⟨w3, rfl, hel', by omega, by have := hl.push (x := ⟨t, b⟩) (by simp only; omega) (hb.mono (by omega)); exact this.mono (by omega), ha.push (xt (by rw [F.lt] at d1; exact of_decide_eq_true d1)) (by simp only; omega) (by simp only; omega) (by have := hb.1; simp only; omega) hby⟩ (by simp)
     ·rw [hdec nn n hnn (by omega)]
      exact ih (n, l, (n : Int), el, i3, h3, some (t, e, (.ow false), mm)) ⟨w3, rfl, hel, by omega, hl.mono (by omega), ha⟩ (by simp)
    | succ m =>
     rw [hgt mm (m + 1) hmm]; cbv
     obtain ⟨y, i4, h4, k4, w4, r4, r4'⟩ := kb 256 (by decide) (by decide) w3 h3
     obtain ⟨e', he'⟩ := nm (row fI (b ++ [y]))
     rw [k4]; cbv
     rw [show allS [[.int .i64 y]] = true by rw [F.allS]; rfl]; cbv
     rw [show app 1 e [[.int .i64 y]] = some e' by rw [he']; exact F.push (f := fI) (l := b) he (fun _ => rfl) rfl (by have := hb.1; omega)]; cbv
     rw [hdec mm m hmm (by omega)]
     exact ih2 (m, (m : Int), i4, h4, some (b ++ [y], e')) ⟨w4, rfl, by simp only; omega, fun j e => by
      cases e
      exact ⟨he', (hb.push (by omega) (by omega)).mono (by simp only; omega), bytes_push hby (by omega) (by omega)⟩⟩ (by simp)
theorem dw3247 {B : List Int} {i : Int} (w : CW B i) (h : Int) : ∃ r, fix Tb md 3247 [sCur (row fU B) (.sp 0 0) i h] = some r ∧ ∃ l x i' h', r = ⟨[sHello (row fI l) (row fExt x) (.ow false) (.ow false)], [], some (vCur (row fU B) i' h')⟩ ∧ CW B i' ∧ VL 4 l ∧ XL 5 x ∧ isHel ⟨l, x⟩ = true := by
 obtain ⟨_, k1, l, i1, h1, rfl, w1, hl, hav⟩ := dw3248 w h
 obtain ⟨_, k2, x, i2, h2, rfl, w2, hx, hax⟩ := dw3344 w1 h1
 obtain ⟨eb, heb⟩ := nm (row fU B)
 obtain ⟨el, hel⟩ := nm (row fI l)
 obtain ⟨ex, hex⟩ := nm (row fExt x)
 rw [← heb] at k1 k2 ⊢
 rw [← hel] at k1
 rw [← hex] at k2
 refine fix_bxE (fn := ir3247) tb_3247 rfl rfl rfl (by decide) ?_; intro Q W hW hQ; simp only [List.map_nil, ir3247]
 have hW' : W (some ⟨[sHello el ex (.ow false) (.ow false)], [], some (vCur eb i2 h2)⟩) := hW _ ⟨l, x, i2, h2, by rw [hel, hex], w2, hl, hx, by unfold isHel; rw [hav, hax]; rfl⟩
 clear hW
 intro add sub mul arith eq ne lt le gt ge neg conv mn mx not beq len at' ln bd cut app allS isNil mks set o hP F ho
 rw [← ho] at k1 k2
 cbv
 rw [k1]; cbv
 rw [k2]; cbv
 rw [hQ]; cbv
 exact hW'
theorem dr194 (B : List Int) (hl : B.length ≤ 1048576) : ∃ r, fix Tb md 194 [R (row fU B) (.sp 0 0)] = some r ∧ ∃ c f, r = ⟨[R (row fI c) f], [], none⟩ ∧ c.length ≤ 1000 ∧ (f = .ow false ∨ f = .no) := by
 have k1 := ok246 B hl
 obtain ⟨h, hh⟩ := nm (newC B).h
 rw [← hh] at k1
 obtain ⟨_, k2, l, x, i1, h1, rfl, w1, hl', hx, hhel⟩ := dw3247 (CW.new hl) h
 have mh : (⟨l, x⟩ : Hello).Mid := by
  unfold Hello.Mid
  exact ⟨by have := hl'.1; simp only; omega, by have := hx.1; simp only; omega, fun y hy => by have := (hx.2 y hy).2.1; show y.body.length ≤ _; omega⟩
 have k3 := ok162 ⟨l, x⟩ mh (f0 := .sp 0 0) (f1 := .sp 0 1) rfl rfl
 have hbl := helB_small ⟨l, x⟩
 have hpos : 0 < (helB ⟨l, x⟩).length := by unfold helB; rw [if_pos hhel]; simp
 obtain ⟨b, hb⟩ := nm (helB ⟨l, x⟩)
 rw [← hb] at k3 hbl hpos
 simp only at k3
 obtain ⟨n2, i2, h2, k4, w2, r2, r2'⟩ := below_dr w1 h1 7 (by decide) (by decide)
 obtain ⟨n3, i3, h3, k5, w3, r3, r3'⟩ := below_dr w2 h2 3 (by decide) (by decide)
 obtain ⟨n4, i4, h4, k6, w4, r4, r4'⟩ := below_dr w2 h2 (b.length : Int) (by omega) (by omega)
 have r4n : n4.toNat < b.length := by omega
 have r4a : At n4 n4.toNat := by unfold At; omega
 obtain ⟨n5, i5, h5, k7, w5, r5⟩ := int_dr w4 h4 [0, 1, 2, 9, 255, 256, -1, 9223372036854775807] (by simp) (by simp) (f := .sp 1 0) rfl
 simp only [show row fI [0, 1, 2, 9, 255, 256, -1, 9223372036854775807] = [[.int .i64 0], [.int .i64 1], [.int .i64 2], [.int .i64 9], [.int .i64 255], [.int .i64 256], [.int .i64 (-1)], [.int .i64 9223372036854775807]] from rfl] at k7
 obtain ⟨eB, heB⟩ := nm (row fU B)
 obtain ⟨el, hel⟩ := nm (row fI l)
 obtain ⟨ex, hex⟩ := nm (row fExt x)
 obtain ⟨eb, heb⟩ := nm (row fI b)
 rw [← heB] at k1 k2 k4 k5 k6 k7 ⊢
 rw [← hel, ← hex] at k2 k3
 rw [← heb] at k3
 refine fix_fnE (fn := ir194) tb_194 rfl rfl (by decide) rfl ?_; intro Q W hW hQ; simp only [shutArgs, shutS, List.map_cons, List.map_nil, ir194, List.head?_nil, reduceCtorEq, if_false, shut_in (f := .sp 0 0) rfl]
 have hW' : ∀ e c f, e = row fI c → c.length ≤ 1000 → (f = .ow false ∨ f = .no) → W (some ⟨[R e f], [], none⟩) := fun e c f h1 h2 h3 => hW _ ⟨c, f, by rw [h1], h2, h3⟩
 clear hW
 intro add sub mul arith eq ne lt le gt ge neg conv mn mx not beq len at' ln bd cut app allS isNil mks set o hP F ho
 rw [← ho] at k1 k2 k3 k4 k5 k6 k7
 have m1 := F.len_at heb
 cbv
 rw [k1]; cbv
 rw [k2]; cbv
 rw [k3]; cbv
 rw [k4]; cbv
 refine both (fun d1 => ?_) (fun d1 => ?_) <;> rw [d1] <;> cbv
 ·obtain ⟨eb', heb'⟩ := nm (row fI (b ++ [n3]))
  rw [k5]; cbv
  rw [show allS [[.int .i64 n3]] = true by rw [F.allS]; rfl]; cbv
  rw [show app 1 eb [[.int .i64 n3]] = some eb' by rw [heb']; exact F.push (f := fI) (l := b) heb (fun _ => rfl) rfl (by omega)]; cbv
  rw [hQ]; cbv
  exact hW' eb' _ _ heb' (by simp; omega) (.inl rfl)
 refine both (fun d2 => ?_) (fun d2 => ?_) <;> rw [d2] <;> cbv
 ·obtain ⟨k, hk⟩ := nm (b.length - 1)
  have m2 : At (sub .i64 (len eb) 1) k := by
   unfold At at m1 ⊢
   rw [F.sub, m1, wrap64 (by omega) (by omega)]; omega
  obtain ⟨eb', heb'⟩ := nm (row fI ((b.take k).drop 0))
  rw [F.bd' m2 (by rw [F.ln' heb]; omega)]; cbv
  rw [show cut 1 eb k 0 = some eb' by rw [heb']; exact F.cut' heb (fun _ => rfl)]; cbv
  rw [hQ]; cbv
  exact hW' eb' _ _ heb' (by simp; omega) (.inr rfl)
 refine both (fun d3 => ?_) (fun d3 => ?_) <;> rw [d3] <;> cbv
 ·have k6' : o 3317 [sCur eB (.sp 0 0) i2 h2, I (len eb)] = some ⟨[I n4], [], some (vCur eB i4 h4)⟩ := by unfold At at m1; rw [m1]; exact k6
  rw [k6']; cbv
  rw [k7]; cbv
  obtain ⟨pre, y, suf, hb4, hp4⟩ : ∃ pre y suf, b = pre ++ y :: suf ∧ pre.length = n4.toNat := by
   exact ⟨b.take n4.toNat, b[n4.toNat], b.drop (n4.toNat + 1), by rw [List.getElem_cons_drop r4n, List.take_append_drop], by rw [List.length_take]; omega⟩
  obtain ⟨ix, hix⟩ := nm (pre.length * 1)
  have hi4 : At n4 pre.length := hp4 ▸ r4a
  rw [show at' 1 eb n4 = some (ix, [.int .i64 y]) by rw [hix]; exact F.get hi4 heb hb4 (fun _ => rfl) (by decide)]; cbv
  obtain ⟨eb', heb'⟩ := nm (row fI (pre ++ n5 :: suf))
  rw [show set eb ix [.int .i64 n5] = some eb' by rw [F.set, heb, hix, hb4, heb']; exact set_one (fun _ => rfl) rfl]; cbv
  rw [hQ]; cbv
  exact hW' eb' _ _ heb' (by rw [hb4] at hbl; simp at hbl ⊢; omega) (.inl rfl)
 ·rw [hQ]; cbv
  exact hW' eb _ _ heb (by omega) (.inl rfl)
theorem dr3249 {B : List Int} {i : Int} (w : CW B i) (h : Int) : ∃ r, fix Tb md 3249 [sCur (row fU B) (.sp 0 0) i h] = some r ∧ ∃ l i' h', r = ⟨[R (row fI l) (.ow false)], [], some (vCur (row fU B) i' h')⟩ ∧ CW B i' ∧ VL 4 l := by
 obtain ⟨n2, i2, h2, k2, w2, r2, r2'⟩ := below_dr w h 5 (by decide) (by decide)
 have kb := fun {i : Int} (w : CW B i) (h : Int) => int_dr w h [1, 2, 3, 10, 40, 200] (by simp) (by simp) (f := .sp 1 0) rfl
 simp only [show row fI [1, 2, 3, 10, 40, 200] = [[.int .i64 1], [.int .i64 2], [.int .i64 3], [.int .i64 10], [.int .i64 40], [.int .i64 200]] from rfl] at kb
 have kp := fun (l : List Int) (n : Int) (hl : l.length ≤ 1073741824) => ok345 l n hl (f0 := .sp 0 0) rfl
 obtain ⟨eb, heb⟩ := nm (row fU B)
 rw [← heb] at k2 kb ⊢
 refine fix_bxE (fn := ir3249) tb_3249 rfl rfl rfl (by decide) ?_; intro Q W hW hQ; simp only [List.map_nil, ir3249]
 have hW' : ∀ el i' h' l, el = row fI l → CW B i' → VL 4 l → W (some ⟨[R el (.ow false)], [], some (vCur eb i' h')⟩) := fun el i' h' l e a b => hW _ ⟨l, i', h', by rw [e], a, b⟩
 clear hW
 intro add sub mul arith eq ne lt le gt ge neg conv mn mx not beq len at' ln bd cut app allS isNil mks set o hP F ho
 rw [← ho] at k2 kb kp
 have hgt : ∀ (z : Int) (n : Nat), z = (n : Int) → gt z 0 = decide (0 < n) := fun z n e => by rw [F.gt, e]; simp
 have hdec : ∀ (z : Int) (n : Nat), z = ((n + 1 : Nat) : Int) → n ≤ 1000 → sub .i64 z 1 = (n : Int) := fun z n e hn => by rw [F.sub, e, wrap64 (by omega) (by omega)]; omega
 cbv
 rw [k2]; cbv
 refine loop_ind2 hP (σ := Nat × List Int × Int × List (List V) × Int × Int) (fun s => [(0, ⟨.ptr 37 0, []⟩), (2, R [] .nl), (3, R s.2.2.2.1 (.ow false)), (4, I s.2.2.1), (37, ⟨.box (), [⟨.row () eb, .sp 0 0⟩, ⟨.int .i64 s.2.2.2.2.1, .sc⟩, ⟨.int .i64 s.2.2.2.2.2, .sc⟩]⟩)]) (fun s => CW B s.2.2.2.2.1 ∧ s.2.2.1 = (s.1 : Int) ∧ s.2.2.2.1 = row fI s.2.1 ∧ s.1 ≤ 4 ∧ VL (4 - s.1) s.2.1) (fun s => s.1) (n2.toNat, [], n2, [], i2, h2) rfl ⟨w2, by simp only; omega, rfl, by simp only; omega, by simp, by simp⟩ ?_
 intro c9 Q1 hc9 hQ1
 rintro ⟨n, l, nn, el, i, h⟩ ⟨hw, hnn, hel, hn, hl⟩ ih
 simp only at hw hnn hel hn hl ih
 cbv
 cases n with
 | zero =>
  rw [hgt nn 0 hnn]; cbv
  rw [hQ1]; cbv
  rw [hQ]; cbv
  exact hW' el i h l hel hw hl
 | succ n =>
  rw [hgt nn (n + 1) hnn]; cbv
  obtain ⟨x, i', h', k, w', rx⟩ := kb hw h
  simp only [List.mem_cons, List.not_mem_nil, or_false] at rx
  obtain ⟨el', hel'⟩ := nm (row fI (l4V l x))
  have kq : o 345 [R el (.sp 0 0), I x] = some ⟨[R el' (.ow false)], [], none⟩ := by rw [hel, hel']; exact kp l x (by have := hl.1; omega)
  rw [k]; cbv
  rw [kq]; cbv
  rw [hdec nn n hnn (by omega)]
  exact ih (n, l4V l x, (n : Int), el', i', h') ⟨w', rfl, hel', by omega, by have := l4V_VL hl (n := x) (by omega) (by omega); exact this.mono (by omega)⟩ (by simp)
theorem dr195 (B : List Int) (hl : B.length ≤ 1048576) : ∃ r, fix Tb md 195 [R (row fU B) (.sp 0 0)] = some r ∧ ∃ v t l x, r = ⟨[R (row fI v) (.ow false), R (row fI t) (.ow false), sHello (row fI l) (row fExt x) (.ow false) (.ow false)], [], none⟩ ∧ VL 5 v ∧ VL 4 t ∧ VL 5 l ∧ YL x := by
 have k1 := ok246 B hl
 obtain ⟨h, hh⟩ := nm (newC B).h
 rw [← hh] at k1
 obtain ⟨_, k2, v, i1, h1, rfl, w1, hv⟩ := dr3315 (CW.new hl) h
 obtain ⟨_, k3, t, i2, h2, rfl, w2, ht⟩ := dr3249 w1 h1
 obtain ⟨_, k4, l, x, i3, h3, rfl, w3, hl', hx⟩ := dr3251 w2 h2
 obtain ⟨eb, heb⟩ := nm (row fU B)
 obtain ⟨ev, hev⟩ := nm (row fI v)
 obtain ⟨et, het⟩ := nm (row fI t)
 obtain ⟨el, hel⟩ := nm (row fI l)
 obtain ⟨ex, hex⟩ := nm (row fExt x)
 rw [← heb] at k1 k2 k3 k4 ⊢
 rw [← hev] at k2
 rw [← het] at k3
 rw [← hel, ← hex] at k4
 refine fix_fnE (fn := ir195) tb_195 rfl rfl (by decide) rfl ?_; intro Q W hW hQ
 simp only [shutArgs, shutS, List.map_cons, List.map_nil, ir195, shut_in (show inFl (.sp 0 0) = true from rfl), List.head?_nil, reduceCtorEq, if_false] at hQ ⊢
 have hW' : W (some ⟨[R ev (.ow false), R et (.ow false), sHello el ex (.ow false) (.ow false)], [], none⟩) := hW _ ⟨v, t, l, x, by rw [hel, hex, hev, het], hv, ht, hl', hx⟩
 clear hW
 intro add sub mul arith eq ne lt le gt ge neg conv mn mx not beq len at' ln bd cut app allS isNil mks set o hP F ho
 rw [← ho] at k1 k2 k3 k4
 cbv
 rw [k1]; cbv
 rw [k2]; cbv
 rw [k3]; cbv
 rw [k4]; cbv
 rw [hQ]; cbv
 exact hW'
theorem fitL_U {vs : List V} (h : FitL [.int .u8] vs) : ∃ n, vs = fU n ∧ True := by
 obtain ⟨v, vs', rfl, h1, h2⟩ := fitL_cons h
 obtain ⟨n, rfl, h3⟩ := fit_int h1
 exact ⟨n, by rw [fitL_nil h2]; rfl, trivial⟩
theorem goT {x : Bool} {A B : Prop} (h : x = true) (a : A) : (match (generalizing := false) x with | true => A | false => B) := by subst h; exact a
theorem goF {x : Bool} {A B : Prop} (h : x = false) (b : B) : (match (generalizing := false) x with | true => A | false => B) := by subst h; exact b
theorem shareA {α : Type} {G : α → Prop} {C : Prop} (main : (∀ a, G a) → C) (proof : ∀ a, G a) : C := main proof
theorem shareB {α β : Type} {G : α → β → Prop} {C : Prop} (main : (∀ a b, G a b) → C) (proof : ∀ a b, G a b) : C := main proof
theorem shareC {α β γ : Type} {G : α → β → γ → Prop} {C : Prop} (main : (∀ a b c, G a b c) → C) (proof : ∀ a b c, G a b c) : C := main proof
theorem decS_enc : ∀ (l acc : List Ext), decS (l.flatMap exI) acc = some (acc ++ l)
 | [], acc => by rw [List.flatMap_nil, decS]; simp
 | e :: l, acc => by
  have h1 : inLen (e.body.length : Int) (e.body ++ l.flatMap exI) = true := by unfold inLen; rw [inR_iff]; simp; omega
  rw [List.flatMap_cons]
  show decS (e.tag :: (e.body.length : Int) :: (e.body ++ l.flatMap exI)) acc = _
  rw [decS, if_pos h1]
  simp only [Int.toNat_natCast, List.drop_left, List.take_left]
  rw [decS_enc l]
  simp
theorem decS_inv : ∀ (k : Nat) (suf : List Int) (acc es : List Ext), suf.length ≤ k → decS suf acc = some es → ∃ l, es = acc ++ l ∧ suf = l.flatMap exI := by
 intro k
 induction k with
 | zero =>
  intro suf acc es hk h
  have : suf = [] := List.length_eq_zero_iff.1 (by omega)
  subst this
  rw [decS] at h; cases h
  exact ⟨[], by simp, rfl⟩
 | succ k ih =>
  intro suf acc es hk h
  rw [decS.eq_def] at h
  split at h
  ·cases h; exact ⟨[], by simp, rfl⟩
  ·cases h
  ·rename_i t n suf
   split at h
   ·rename_i hn
    obtain ⟨l, h1, h2⟩ := ih _ _ _ (by simp at hk ⊢; omega) h
    unfold inLen at hn
    rw [inR_iff] at hn
    refine ⟨⟨t, suf.take n.toNat⟩ :: l, by rw [h1]; simp, ?_⟩
    rw [List.flatMap_cons]
    show t :: n :: suf = t :: ((suf.take n.toNat).length : Int) :: (suf.take n.toNat ++ l.flatMap exI)
    rw [← h2, List.take_append_drop, List.length_take]
    congr 2
    omega
   ·cases h
theorem decP_enc {x : List Ext} (h : areEx x = true) : decP (encX x) = (x, true) := by
 show decR (x.length : Int) (decS (x.flatMap exI) []) = _
 rw [decS_enc, List.nil_append]
 unfold decR lenNe
 simp [h]
theorem decP_inv {l : List Int} {e : List Ext} (h : decP l = (e, true)) : encX e = l := by
 match l with
 | [] => cases h
 | c :: r =>
  change decR c (decS r []) = _ at h
  cases hT : decS r [] with
  | none => rw [hT] at h; cases h
  | some es =>
   rw [hT] at h
   obtain ⟨l, h1, h2⟩ := decS_inv _ _ _ _ (Nat.le_refl _) hT
   unfold decR at h
   simp only at h
   split at h
   ·cases h
   ·rename_i hc
    split at h
    ·cases h
     unfold lenNe at hc
     simp only [decide_eq_true_eq, Decidable.not_not] at hc
     rw [List.nil_append] at h1
     unfold encX
     rw [hc, h1, h2]
    ·cases h
theorem rd_hel {h : Hello} (q : isHel h = true) : rdG (helB h) = (h, true) := by
 unfold helB
 rw [if_pos q]
 have hq := q
 unfold isHel areVer at hq
 simp only [Bool.and_eq_true, decide_eq_true_eq] at hq
 show (if inOne (h.versions.length : Int) (h.versions ++ encX h.exts) then rdK ((h.versions ++ encX h.exts).take (h.versions.length : Int).toNat) (decP ((h.versions ++ encX h.exts).drop (h.versions.length : Int).toNat)) else (⟨[], []⟩, false)) = _
 rw [if_pos (by unfold inOne; rw [inR_iff]; simp; omega)]
 simp only [Int.toNat_natCast, List.take_left, List.drop_left]
 rw [decP_enc hq.2]
 unfold rdK
 simp [q]
theorem rd_inv {c : List Int} {y : Hello} (h : rdG c = (y, true)) : helB y = c := by
 match c with
 | [] => cases h
 | n :: rest =>
  change (if inOne n rest then rdK (rest.take n.toNat) (decP (rest.drop n.toNat)) else (⟨[], []⟩, false)) = _ at h
  split at h
  ·rename_i h1
   unfold inOne at h1
   rw [inR_iff] at h1
   rcases hd : decP (rest.drop n.toNat) with ⟨e, b⟩
   rw [hd] at h
   unfold rdK at h
   cases b with
   | false => cases h
   | true =>
    simp only [if_true] at h
    split at h
    ·rename_i hh
     cases h
     unfold helB
     rw [if_pos hh]
     simp only
     rw [decP_inv hd, List.length_take, List.cons_append, List.take_append_drop]
     congr 1
     omega
    ·cases h
  ·cases h
theorem rd_no {h : Hello} (q : isHel h = false) : rdOk (helB h) = false := by
 unfold helB
 rw [q]
 rfl
theorem ca_good {vs tg : List Int} {h : Hello} (q : caOk vs h = true) : fitsV h (caV vs tg h) = true ∧ (caV vs tg h).version = bestC vs h.versions ∧ subB (sel yesE Ext.tag (caV vs tg h).exts) tg = true ∧ 0 < (ansB (caV vs tg h)).length := by
 have ha := caV_ans (tg := tg) q
 have hn := ansB_ne ha
 have hh := caOk_hel q
 have e : caV vs tg h = ⟨bestC vs h.versions, caX tg h.exts⟩ := by unfold caV; rw [if_pos q]
 have hb : bestC vs h.versions ≠ 0 := by
  unfold caOk at q
  simp only [Bool.and_eq_true, Bool.not_eq_true', decide_eq_false_iff_not] at q
  exact q.2
 have hm : ∀ x ∈ caX tg h.exts, x ∈ h.exts ∧ hasI tg x.tag = true ∧ resv x.tag = false := by
  intro x hx
  unfold caX at hx
  rw [sel_idE, sel_idE, List.mem_filter, List.mem_filter] at hx
  refine ⟨hx.1.1, hx.1.2, ?_⟩
  have := hx.2
  unfold notRes at this
  simpa using this
 refine ⟨?_, by rw [e], ?_, List.length_pos_iff.2 hn⟩
 ·unfold fitsV
  rw [hh, ha]
  rw [e]
  simp only [Bool.and_true, Bool.and_eq_true, List.all_eq_true]
  refine ⟨fun x hx => ?_, (bestC_in hb).2.2.1⟩
  obtain ⟨h1, _, h3⟩ := hm x hx
  unfold okT
  rw [h3, decide_eq_false (find_some_of h1)]
  rfl
 ·rw [e]
  unfold subB
  rw [List.all_eq_true]
  intro t ht
  unfold sel at ht
  rw [List.mem_map] at ht
  obtain ⟨x, hx, rfl⟩ := ht
  exact (hm x (List.mem_filter.1 hx).1).2.1
end Go.Vm
